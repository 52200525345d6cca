/- db of this claim: W1, W49, W2, W3, W4, W5, W6, W7, W8, W9, W10, W11, W12, W13, W14. -/
import Derived.WalkKit
import Derived.Orders
import Derived.Lone
import Derived.RunT
import Derived.Calls
import Derived.RangeFuncIn
import Derived.TacticsIn
import Derived.OrdersIn
import Derived.LoopIn
import Derived.Laws.AppendOwn
import Derived.Deep.Upon
import Derived.Lib.AppendStr
import Derived.IntWalk
set_option linter.all false
-- TABI
namespace Go.Proofs.YtbmmihfagmchaaaGreat
open Go
def fM:= @Option.bind_some
def mH:= @List.getElem?_eq_some_iff
def k5:= @List.mem_cons_self
def nf:= @List.mem_cons_of_mem
def iZ:= @Nat.le_refl
def ei:= @if_neg
def eF:= @if_pos
def hT:= @List.length_append
def eV:= @List.mem_cons
def kC:= @List.take_of_length_le
def kB:= @Nat.eq_of_beq_eq_true
def gy:= @run_underlying
def lX:= @List.getElem?_eq_getElem
def jI:= @List.append_assoc
def lL:= @Nat.le_of_ble_eq_true
def kA:= @Bool.and_eq_true
def kz:= @List.all_eq_true
def iH:= @Nat.lt_or_ge
def qA:= @List.take_append_of_le_length
def ra:= @List.eq_nil_of_length_eq_zero
def qz:= @Array.getElem?_eq_some_iff
def pe:= @List.take_append_drop
def qy:= @Array.getElem?_replicate
def my:= @Option.some.inj
def lW:= @List.drop_drop
def pq:= @List.mem_of_getElem?
def ky:= @Nat.zero_le
def r0:= @List.drop_eq_getElem_cons
def oc:= @List.length_cons
def nQ:= @List.nil_append
def tf:= @List.getElem?_append_right
def pp:= @Result.andThen_ok
def qg:= @List.getElem?_drop
def qf:= @List.mem_singleton
def q9:= @Nat.mul_le_mul_right
def tN:= @List.getElem?_take_of_lt
def vj:= @List.getElem?_append_left
def ox:= @getD_set_true
def wB:= @Array.getD_eq_getD_getElem?
def tM:= @List.drop_of_length_le
def oa:= @Nat.zero_add
def rZ:= @Bool.false_eq_true
def ow:= @Sem.run_bind
def qx:= @Nat.min_eq_left
def q8:= @Bool.not_eq_true
def q7:= @List.any_eq_true
def po:= @Bool.not_true
def vi:= @Bool.and_eq_true_iff
def wA:= @Option.map_eq_some_iff
def wz:= @List.drop_eq_nil_of_le
def q6:= @List.drop_zero
def q5:= @List.take_take
def A3:= @List.take_succ_eq_append_getElem
def tK:= @Int.toNat_natCast
def pn:= @Nat.add_mul
def wy:= @List.drop_eq_nil_iff
def te:= @List.mem_append
def vh:= @List.pairwise_cons
def pc:= @Nat.blt_eq
def A2:= @List.drop_append_of_le_length
def td:= @List.drop_take
def ni:= @if_true
def xG:= @Array.length_toList
def ov:= @if_false
def vg:= @List.append_nil
def vf:= @Bool.or_eq_true
def ww:= @List.length_take
def tI:= @Bool.false_or
def rY:= @getD_set_ne
def qw:= @mem_ready
def xF:= @List.length_drop
def xE:= @List.take_length
def A1:= @List.getElem?_eq_none
def wv:= @heap_alloc_new
def zb:= @Nat.lt_of_lt_of_le
def tH:= @Prod.mk.inj
def xD:= @List.length_nil
def AZ:= @List.mem_append_left
def ve:= @Nat.le_trans
def za:= @Bool.not_eq_true'
def wu:= @List.map_cons
def y8:= @List.map_append
def B9:= @List.contains_iff_mem
def xC:= @List.cons.inj
def AX:= @List.size_toArray
def DF:= @List.getElem?_cons_zero
def rX:= @Iff.rfl
def tQ:= @Bool.true_and
def vF:= @List.length_set
def Al:= @Array.toList_replicate
def Ak:= @MapKept.run_getObj_map
def xI:= @List.ext_getElem?
def xH:= @Bool.eq_false_iff
def Aj:= @List.countP_replicate
def tP:= @Nat.le_of_eq
def Ai:= @MapKept.run_checkKey
def sL:= @bne_iff_ne

def yl:Obj->Obj->Prop
 | .cells c E fr,o' => ∃d:List Value,o' = .cells (c.toList++d).toArray E fr
 |o,o' =>o' =o
variable{o:Oper}
def mX(o:Obj):yl o o:=by
 cases o<;>first|rfl|exact⟨[],by simp⟩
variable{c:Code}{cells:List Value}{d:Nat}{fr:Nat×Nat}{k:Nat}{o' :Obj}
def vN{o o'' :Obj}(h:yl o o')(k:yl o' o''):yl o o'' :=by
 cases o with
 |cells c E fr=>
  obtain⟨d,rfl⟩:=h
  obtain⟨d',rfl⟩:=k
  exact⟨d++d',by simp⟩
 |_=>cases h;exact k
variable{off:Nat}
def rr{c:Array Value}{E:TypeId}(h:yl (.cells c E fr) o'){n:Nat}(hl:((c.toList.drop off).take n).length=n):
  ∃c',o' = .cells c' E fr/\(c'.toList.drop off).take n=(c.toList.drop off).take n:=by
 obtain⟨d,rfl⟩:=h
 refine⟨_,rfl,?_⟩
 by_cases hn:n=0
 ·subst hn;simp
 simp only [ww,xF]at hl
 rw [A2 (by omega),qA (by simp only [xF];omega)]
abbrev SH:=Nat->Option Obj
def kT(S S' :SH):Prop:= ∀b o,S b=some o-> ∃o',S' b=some o' /\yl o o'
variable{S:SH}
def SH.le_refl(S:SH):kT S S:=fun _ o h=>⟨o,h,mX o⟩
variable{S' S'' :SH}{b:Bool}{e:TypeId}
def SH.le_trans(h:kT S S')(k:kT S' S''):kT S S'' :=fun b o e=>let⟨o',Y,H⟩:=h b o e;let⟨o'',h3,h4⟩:=k b o' Y;⟨o'',h3,vN H h4⟩
structure Ty where
 p:SH->Value->Prop
 mono: ∀{S S' :SH} {v:Value},kT S S' ->p S v->p S' v

structure Rp(α:Type) where
 sz:Nat
 agg:Bool
 rc:SH->List Value->α->Prop
 mono: ∀{S S' :SH} {cs:List Value} {x:α},kT S S' ->rc S cs x->rc S' cs x
 len: ∀{S:SH} {cs:List Value} {x:α},rc S cs x->cs.length=sz
 one: ∀{S:SH} {cs:List Value} {x:α},rc S cs x-> ∀c∈cs,c.oneCell' =true
 sc:agg=false->sz=1

def Rp.val{α:Type}(r:Rp α)(cs:List Value):Value:=if r.agg then .agg cs.toArray else cs.headD undef

def X{α:Type}(r:Rp α)(x:α):Ty where
 p:=fun S v=> ∃cs,v=r.val cs/\r.rc S cs x
 mono:=fun h ⟨cs,e,k⟩=>⟨cs,e,r.mono h k⟩

def qF:Ty where
 p:=fun _ _=>True
 mono:=fun _ _=>trivial

def tV(u:Value):Ty where
 p:=fun _ v=>v=u
 mono:=fun _ h=>h

def rI(k:IntKind):Rp Int where
 sz:=1
 agg:=false
 rc:=fun _ cs x=>cs=[.int k x]
 mono:=fun _ h=>h
 len:=fun h=>by rw [h];rfl
 one:=fun h c hc=>by subst h;simp at hc;subst hc;rfl
 sc:=fun _=>rfl

def rB:Rp Bool where
 sz:=1
 agg:=false
 rc:=fun _ cs x=>cs=[.bool x]
 mono:=fun _ h=>h
 len:=fun h=>by rw [h];rfl
 one:=fun h c hc=>by subst h;simp at hc;subst hc;rfl
 sc:=fun _=>rfl

abbrev BH:=List UInt8
def rS:Rp BH where
 sz:=1
 agg:=false
 rc:=fun _ cs x=>cs=[.string ⟨x.toArray⟩]
 mono:=fun _ h=>h
 len:=fun h=>by rw [h];rfl
 one:=fun h c hc=>by subst h;simp at hc;subst hc;rfl
 sc:=fun _=>rfl

variable{cs:List Value}{v:Value}
def dG{k:IntKind}{n:Int}:(X (rI k) n).p S v↔v= .int k n:=by
 constructor
 ·rintro⟨cs,rfl,h⟩;have h' :cs=[.int k n]:=h;subst h';rfl
 ·rintro rfl;exact⟨[.int k n],rfl,rfl⟩
def fz:(X rB b).p S v↔v= .bool b:=by
 constructor
 ·rintro⟨cs,rfl,h⟩;have h' :cs=[.bool b]:=h;subst h';rfl
 ·rintro rfl;exact⟨[.bool b],rfl,rfl⟩
variable{s:BH}
def sd:(X rS s).p S v↔v= .string ⟨s.toArray⟩:=by
 constructor
 ·rintro⟨cs,rfl,h⟩;have h' :cs=[.string ⟨s.toArray⟩]:=h;subst h';rfl
 ·rintro rfl;exact⟨[.string ⟨s.toArray⟩],rfl,rfl⟩

def mD{α:Type}(r:Rp α)(S:SH):List Value->List α->Prop
 |cs,[]=>cs=[]
 |cs,x::xs=> ∃a b,cs=a++b/\r.rc S a x/\mD r S b xs
variable{a:Act}{α:Type}{xs:List α}
def mV{α:Type}{r:Rp α}{S S' :SH}(h:kT S S'): ∀{xs:List α} {cs:List Value},mD r S cs xs->mD r S' cs xs
 |[],_,k=>k
 |_::_,_,⟨a,b,e,Y,H⟩=>⟨a,b,e,r.mono h Y,mV h H⟩
variable{x:Operand}
def ju{α:Type}{r:Rp α}{S:SH}: ∀{xs:List α} {cs:List Value},mD r S cs xs->cs.length=xs.length*r.sz
 |[],_,k=>by rw [show _=_ from k];simp
 |x::xs,_,⟨a,b,e,Y,H⟩=>by rw [e,hT,r.len Y,ju H,oc,pn];omega
def tz{α:Type}{r:Rp α}{S:SH}: ∀{xs:List α} {cs:List Value},mD r S cs xs-> ∀c∈cs,c.oneCell' =true
 |[],_,k,c,hc=>by rw [show _=_ from k]at hc;cases hc
 |x::xs,_,⟨a,b,e,Y,H⟩,c,hc=>by
  rw [e]at hc
  rcases te.1 hc with h|h
  ·exact r.one Y c h
  ·exact tz H c h
variable{ys:List α}
def oK{α:Type}{r:Rp α}{S:SH}: ∀{xs ys:List α} {cs ds:List Value},mD r S cs xs->mD r S ds ys->mD r S (cs++ds) (xs++ys)
 |[],_,_,_,k,h=>by rw [show _=_ from k];exact h
 |_::_,_,_,_,⟨a,b,e,Y,H⟩,h=>⟨a,_,by rw [e,jI],Y,oK H h⟩
def lk{α:Type}{r:Rp α}{S:SH}: ∀{xs ys:List α} {cs:List Value},mD r S cs (xs++ys)->
  mD r S (cs.take (xs.length*r.sz)) xs/\mD r S (cs.drop (xs.length*r.sz)) ys
 |[],_,_,k=>by simp [mD];exact k
 |x::xs,ys,cs,⟨a,b,e,Y,H⟩=>by
  have hl:=r.len Y
  have ih:=lk H
  have e1:(x::xs).length*r.sz=a.length+xs.length*r.sz:=by rw [hl,oc,pn];omega
  rw [e,e1,List.take_length_add_append,List.drop_length_add_append]
  exact⟨⟨a,_,rfl,Y,ih.1⟩,ih.2⟩
def zy{r:Rp α}{x:α}:mD r S cs [x]↔r.rc S cs x:=by
 constructor
 ·rintro⟨a,b,rfl,h,V⟩
  rw [show b=[]from V,vg];exact h
 ·intro h;exact⟨cs,[],by simp,h,rfl⟩
variable{i:Nat}
def oJ{r:Rp α}(h:mD r S cs xs){x:α}(I:xs[i]? =some x):
  r.rc S ((cs.drop (i*r.sz)).take r.sz) x:=by
 have hi:i<xs.length:=(mH.1 I).1
 have e:xs=xs.take i++(x::xs.drop (i+1)):=by
  have:=mH.1 I
  rw [<-this.2,<-r0 hi,pe]
 have hl:(xs.take i).length=i:=by simp;omega
 rw [e]at h
 have H:=(lk h).2
 rw [hl]at H
 obtain⟨a,b,e2,h3,_⟩:=H
 rw [e2,<-r.len h3,List.take_left]
 exact h3

def xV{α:Type}(r:Rp α)(S:SH)(a:Option Addr)(xs:List α):Prop:=
 xs=[]\/ ∃b off c E fr,a=some ⟨b,off,none⟩/\S b=some (.cells c E fr)/\mD r S ((c.toList.drop off).take (xs.length*r.sz)) xs
def eY{α:Type}(r:Rp α):Rp (List α) where
 sz:=1
 agg:=false
 rc:=fun S cs xs=> ∃a cap,cs=[.slice a xs.length cap]/\xs.length<=cap/\cap<=maxLen/\xV r S a xs
 mono:=fun h ⟨a,cap,e,Y,H,h3⟩=>⟨a,cap,e,Y,H,h3.imp id fun⟨b,off,c,E,fr,e1,e2,e3⟩=>by
  obtain⟨o',h4,h5⟩:=h _ _ e2
  obtain⟨c',rfl,h6⟩:=rr h5 (ju e3)
  exact⟨b,off,c',E,fr,e1,h4,by rw [h6];exact mV h e3⟩⟩
 len:=fun⟨a,cap,e,_⟩=>by rw [e];rfl
 one:=fun⟨a,cap,e,_⟩ c hc=>by rw [e]at hc;simp at hc;subst hc;rfl
 sc:=fun _=>rfl
variable{cap:Nat}
def iS{r:Rp α}:(X (eY r) xs).p S v↔ ∃a cap,v= .slice a xs.length cap/\xs.length<=cap/\cap<=maxLen/\xV r S a xs:=by
 constructor
 ·rintro⟨cs,rfl,a,cap,rfl,h⟩;exact⟨a,cap,rfl,h⟩
 ·rintro⟨a,cap,rfl,h⟩;exact⟨_,rfl,a,cap,rfl,h⟩
def Ao{r:Rp α}:(X (eY r) []).p S (.slice none 0 0):=iS.2 ⟨none,0,rfl,iZ _,ky _,.inl rfl⟩

def bp{α:Type}(r:Rp α)(x:α):Ty where
 p:=fun S v=> ∃b off c E fr,v= .pointer (some ⟨b,off,none⟩)/\S b=some (.cells c E fr)/\r.rc S ((c.toList.drop off).take r.sz) x
 mono:=fun h ⟨b,off,c,E,fr,e1,e2,e3⟩=>by
  obtain⟨o',h4,h5⟩:=h _ _ e2
  obtain⟨c',rfl,h6⟩:=rr h5 (r.len e3)
  exact⟨b,off,c',E,fr,e1,h4,by rw [h6];exact r.mono h e3⟩

def G6:List (Nat×List Value):=[]
def G1(w:World):Prop:=True
structure gc(w:World)(S:SH):Prop where
 at_: ∀b o,S b=some o-> ∃o',w.heap[b]? =some o' /\yl o o'
 gl: ∀p∈G6,∃c aT fr,S p.1=some (.cells c aT fr)/\c.toList.take p.2.length=p.2
 tb: ∀w' :World,(∀b o,S b=some o-> ∃o',w'.heap[b]? =some o' /\yl o o')->G1 w'
instance{w:World}{S:SH}:CoeFun (gc w S) (fun _=> ∀b o,S b=some o-> ∃o',w.heap[b]? =some o' /\yl o o'):=⟨gc.at_⟩
variable{w:World}
def gc.lt(h:gc w S){b:Nat}{o:Obj}(k:S b=some o):b<w.heap.size:=let⟨_,Y,_⟩:=h b o k;(qz.1 Y).1
def gc.part(h:gc w S){b:Nat}{c:Array Value}{E:TypeId}(k:S b=some (.cells c E fr)){n:Nat}(hl:((c.toList.drop off).take n).length=n):
  ∃c',w.heap[b]? =some (.cells c' E fr)/\(c'.toList.drop off).take n=(c.toList.drop off).take n:=by
 obtain⟨o',Y,H⟩:=h b _ k
 obtain⟨c',rfl,h3⟩:=rr H hl
 exact⟨c',Y,h3⟩
variable{w' :World}
def gc.same(h:gc w S)(k: ∀b o,S b=some o->w'.heap[b]? =w.heap[b]?):gc w' S:=⟨fun b o e=>by rw [k b o e];exact h b o e,h.gl,h.tb⟩

def la:Nat->Prop:=fun _=>False
structure ez(B:Nat->Prop)(w:World)(S:SH)(w' :World)(S' :SH):Prop where
 os:w'.os=w.os
 tape:w'.tape=w.tape
 output:w'.output=w.output
 drawn:w.drawn<=w'.drawn
 size:w.heap.size<=w'.heap.size
 heap: ∀k,k<w.heap.size-> ¬B k->w'.heap[k]? =w.heap[k]?
 keep:kT S S'
 old: ∀k,k<w.heap.size-> ¬B k->S' k=S k
def ez.refl(B:Nat->Prop)(w:World)(S:SH):ez B w S w S:=⟨rfl,rfl,rfl,iZ _,iZ _,fun _ _ _=>rfl,SH.le_refl _,fun _ _ _=>rfl⟩
variable{w'' :World}
def ez.trans{B:Nat->Prop}(h:ez B w S w' S')(k:ez B w' S' w'' S''):ez B w S w'' S'' :=
 ⟨k.os.trans h.os,k.tape.trans h.tape,k.output.trans h.output,ve h.drawn k.drawn,ve h.size k.size,
  fun i hi V=>(k.heap i (zb hi h.size) V).trans (h.heap i hi V),SH.le_trans h.keep k.keep,
  fun i hi V=>(k.old i (zb hi h.size) V).trans (h.old i hi V)⟩
variable{C:Nat->Prop}
def ez.step{B:Nat->Prop}(h:ez B w S w' S')(k:ez C w' S' w'' S'')(hC: ∀b,C b->w.heap.size<=b\/B b):ez B w S w'' S'' :=
 ⟨k.os.trans h.os,k.tape.trans h.tape,k.output.trans h.output,ve h.drawn k.drawn,ve h.size k.size,
  fun i hi V=>(k.heap i (zb hi h.size) (fun hc=>(hC i hc).elim (fun h=>by omega) V)).trans (h.heap i hi V),SH.le_trans h.keep k.keep,
  fun i hi V=>(k.old i (zb hi h.size) (fun hc=>(hC i hc).elim (fun h=>by omega) V)).trans (h.old i hi V)⟩
def ez.more{B:Nat->Prop}(h:ez B w S w' S')(k: ∀b,B b->C b):ez C w S w' S' :=
 ⟨h.os,h.tape,h.output,h.drawn,h.size,fun i hi V=>h.heap i hi (fun h=>V (k i h)),h.keep,fun i hi V=>h.old i hi (fun h=>V (k i h))⟩
def ez.step0{B:Nat->Prop}(h:ez B w S w' S')(k:ez la w' S' w'' S''):ez B w S w'' S'' :=h.step k fun _ V=>V.elim

structure OE where
 fp:Nat->Prop
 p:World->SH->Prop
 here: ∀{w S},p w S-> ∀k,fp k->k<w.heap.size
 kept: ∀{C w w' S S'},p w S->ez C w S w' S' ->(∀k,fp k-> ¬C k)->p w' S'
def OE.holds(e:OE)(base:Nat)(B:Nat->Prop)(w:World)(S:SH):Prop:=e.p w S/\ ∀k,e.fp k->base<=k\/B k
def OE.apart(e f:OE):Prop:= ∀b,e.fp b-> ¬f.fp b
def cF(base:Nat)(B:Nat->Prop)(w:World)(S:SH):List OE->Prop
 |[]=>True
 |e::O=>e.holds base B w S/\(∀f∈O,e.apart f)/\cF base B w S O
def xv{e:OE}{base:Nat}{B:Nat->Prop}(h:e.holds base B w S)(k:ez C w S w' S')(hC: ∀b,e.fp b-> ¬C b):e.holds base B w' S' :=⟨e.kept h.1 k hC,h.2⟩
variable{O:List OE}{f:FuncId}
def cF.ext{base:Nat}{B:Nat->Prop}(k:ez C w S w' S'): ∀{O:List OE},cF base B w S O->(∀e∈O,∀b,e.fp b-> ¬C b)->cF base B w' S' O
 |[],_,_=>trivial
 |e::_,⟨Y,H,h3⟩,hC=>⟨xv Y k (hC e (k5 ..)),H,cF.ext k h3 fun f M=>hC f (nf _ M)⟩
def cF.ext0{base:Nat}{B:Nat->Prop}(k:ez la w S w' S')(h:cF base B w S O):cF base B w' S' O:=
 h.ext k fun _ _ _ _ V=>V
def cF.mem{base:Nat}{B:Nat->Prop}: ∀{O:List OE},cF base B w S O-> ∀e∈O,e.holds base B w S
 |_::_,⟨Y,_,_⟩,_,.head _=>Y
 |_::_,⟨_,_,h3⟩,_,.tail _ hm=>cF.mem h3 _ hm

abbrev gJ:=List (Nat×Ty)
def bu:gJ->Nat->Option Ty
 |[],_=>none
 |(k,t)::G,j=>bif Nat.beq k j then some t else bu G j
structure Fr where
 n:Nat
 ds:List Deferred
structure db(N:Fr)(S:SH)(a:Act)(G:gJ):Prop where
 size:a.tmps.size=N.n
 defers:a.defers=N.ds
 at_: ∀k t,bu G k=some t->t.p S (a.tmps.getD k undef)
variable{G:gJ}{j:Nat}{t:Ty}
def db.mono{N:Fr}(h:db N S a G)(k:kT S S'):db N S' a G:=⟨h.size,h.defers,fun j t e=>t.mono k (h.at_ j t e)⟩
def db.sub{N:Fr}{G' :gJ}(h:db N S a G)(k: ∀j t,bu G' j=some t->bu G j=some t):db N S a G' :=⟨h.size,h.defers,fun j t e=>h.at_ j t (k j t e)⟩
variable{u:OE}
def db.put{N:Fr}(h:db N S a G)(hd:Nat.blt d N.n=true)(hv:t.p S v):db N S (a.put (some d) v) ((d,t)::G):=by
 have hd' :d<N.n:=by simpa [pc] using hd
 refine⟨by simp [Act.put,h.size],h.defers,fun j u e=>?_⟩
 unfold bu at e
 by_cases hj:d=j
 ·subst hj
  have e' :t=u:=by simpa using e
  rw [e']at hv
  simp [Act.put,wB,h.size,hd',hv]
 ·have V:Nat.beq d j=false:=by cases hh:Nat.beq d j with
   |false=>rfl
   |true=>exact absurd (kB hh) hj
  rw [V]at e
  have:=h.at_ j u e
  simpa [Act.put,wB,Array.getElem?_setIfInBounds,hj] using this
def zk:gJ->gJ->Prop
 |[],_=>True
 |(k,t)::G',G=>bu G k=some t/\zk G' G
def vI: ∀{G' G:gJ},zk G' G-> ∀j t,bu G' j=some t->bu G j=some t
 |(k,t)::G',G,⟨Y,H⟩,j,u,e=>by
  unfold bu at e
  by_cases V:Nat.beq k j=true
  ·rw [V]at e
   have:=kB V
   subst this
   simp only [cond_true]at e
   rw [<-e];exact Y
  ·rw [q8]at V
   rw [V]at e
   exact vI H j u e

def aD(N:Fr)(G:gJ)(x:Operand)(t:Ty):Prop:= ∀S a,db N S a G->t.p S (a.eval x)
def D{N:Fr}(h:bu G k=some t):aD N G (.tmp k) t:=fun _ _ hF=>hF.at_ k t h
def hI{N:Fr}{k:IntKind}{n:Int}:aD N G (.const (.int k n)) (X (rI k) n):=fun _ _ _=>dG.2 rfl
def hB{N:Fr}:aD N G (.const (.bool b)) (X rB b):=fun _ _ _=>fz.2 rfl
def hS{N:Fr}{s:Array UInt8}:aD N G (.const (.string ⟨s⟩)) (X rS s.toList):=fun _ _ _=>sd.2 rfl
def vB{N:Fr}{r:Rp α}:aD N G (.const (.slice none 0 0)) (X (eY r) []):=fun _ _ _=>Ao
def hV{N:Fr}:aD N G (.const v) (tV v):=fun _ _ _=>rfl

section
variable{P:Program}
end

def fw(r:Option Nat):Fence:={fn:=fun _=>True,depth:=none,alive:=false,round:=r}
variable{args:α->List Ty}
def jo{r:Option Nat}{n:Nat}{P:Program}{args:Array Value}{R:Ending->World->Prop}:CallsIn (fw r) n P f args w R↔Calls P f args w R:=callsIn_wide
def yB{r:Option Nat}{n:Nat}:(fw r).depth.isSome=true->1<=n:=fun h=>by cases h
structure En where
 P:Program
 N:Fr
 B:Nat->Prop
 w0:World
 S0:SH
 r:Option Nat
def En.base(E:En):Nat:=E.w0.heap.size

def FM(P:Program)(o:Oper)(a:Act)(ae:Act->World->Prop):Result Next->Prop
 | .ok (.value v) w' =>ae (a.put o.dst v) w'
 | .ok .skip w' =>ae (a.put o.dst undef) w'
 | .ok (.enter f args) w' =>Calls P f args w' fun e w'' => ∃v,e= .returned v/\ae (a.put o.dst v) w''
 | .ok (.round l f tmps assign body) w' =>RoundIn (fw none) 0 P l f tmps assign body w' fun e w'' => ∃v,e= .returned v/\ae (a.put o.dst v) w''
 |_=>False
def yk(P:Program)(o:Oper)(a:Act)(w:World)(ae:Act->World->Prop):Prop:=(∀c,o.op≠ .defer c)/\FM P o a ae ((execOp a.eval o).run P w)
variable{l:Option Nat}
def zw{r:Option Nat}{n:Nat}{P:Program}{l:Nat}{tmps:Array Value}{assign body:Code}{R:Ending->World->Prop}(h:RoundIn (fw none) 0 P l f tmps assign body w R):RoundIn (fw r) n P l f tmps assign body w R:=
 ⟨trivial,fun c cs _=>h.2 c cs (fun _ hd=>by cases hd)⟩
variable{ae K' :Act->World->Prop}
def Cw{P:Program}(hK: ∀a w,ae a w->K' a w){r:Result Next}(h:FM P o a ae r):FM P o a K' r:=by
 cases r with
 |ok n w=>
  cases n<;>simp only [FM]at h ⊢
  case value=>exact hK _ _ h
  case skip=>exact hK _ _ h
  case enter f args=>exact h.mono fun e w' ⟨v,he,hk⟩=>⟨v,he,hK _ _ hk⟩
  case round l f tmps assign body=>exact h.mono fun e w' ⟨v,he,hk⟩=>⟨v,he,hK _ _ hk⟩
 |halt x w=>simp only [FM]at h
def jv{P:Program}(hK: ∀a w,ae a w->K' a w)(h:yk P o a w ae):yk P o a w K' :=⟨h.1,Cw hK h.2⟩
variable{Q:Exit->Act->World->Prop}{β:Type}{res:β->Ty}
def gj{P:Program}{r:Option Nat}(hK: ∀a w,ae a w->K' a w)(h:yk P o a w ae):o.wpIn (fw r) 0 P a w K' Q:=by
 obtain⟨hd,h⟩:=h
 refine⟨fun _ _=>trivial,?_⟩
 rw [Oper.semAt_eq _ _ _ hd]
 generalize (execOp a.eval o).run P w=res at h
 cases res with
 |ok n w=>
  cases n<;>simp only [FM]at h<;>simp only [Oper.uponIn]
  case value=>exact hK _ _ h
  case skip=>exact hK _ _ h
  case enter f args=>exact⟨yB,jo.2 (h.mono fun e w' ⟨v,he,hk⟩=>by subst he;exact hK _ _ hk)⟩
  case round l f tmps assign body=>exact⟨yB,(zw h).mono fun e w' ⟨v,he,hk⟩=>by subst he;exact hK _ _ hk⟩
 |halt x w=>simp only [FM]at h

def bJ(E:En)(O:List OE)(G:gJ)(o:Oper)(t:Ty):Prop:=
 ∀a w S,gc w S->cF E.base E.B w S O->db E.N S a G->
  yk E.P o a w (fun a' w' => ∃v S',a' =a.put o.dst v/\ez la w S w' S' /\gc w' S' /\t.p S' v)
structure St(E:En)(O:List OE)(G:gJ)(a:Act)(w:World)(S:SH):Prop where
 ext:ez E.B E.w0 E.S0 w S
 sat:gc w S
 own:cF E.base E.B w S O
 facts:db E.N S a G
def RG(E:En)(ops:Array Oper)(Q:Exit->Act->World->Prop)(l:List Oper)(O:List OE)(G:gJ):Prop:= ∀a w S,St E O G a w S->wpListIn (fw E.r) 0 E.P ops Q l a w
def CG(E:En)(Q:Exit->Act->World->Prop)(c:Code)(O:List OE)(G:gJ):Prop:= ∀a w S,St E O G a w S->c.wpIn (fw E.r) 0 E.P Q a w
def AT(E:En)(Q:Exit->Act->World->Prop)(e:Exit)(O:List OE)(G:gJ):Prop:= ∀a w S,St E O G a w S->Q e a w

variable{after:Array Edge}{fn:Func}{ops:Array Oper}{pos:String}{ts:List Ty}{y:Operand}
section
variable{E:En}{G' :gJ}{l:List Oper}
def St.step(h:St E O G a w S)(k:ez la w S w' S')(hs:gc w' S')(hd:Nat.blt d E.N.n=true)(hv:t.p S' v):
  St E O ((d,t)::G) (a.put (some d) v) w' S' :=
 ⟨h.ext.step0 k,hs,h.own.ext0 k,(h.facts.mono k.keep).put hd hv⟩
def St.sub(h:St E O G a w S)(k:zk G' G):St E O G' a w S:=⟨h.ext,h.sat,h.own,h.facts.sub (vI k)⟩
def RG.of(Z:o.guard=none)(h: ∀a w S,St E O G a w S->yk E.P o a w (fun a' w' =>wpListIn (fw E.r) 0 E.P ops Q l a' w')):RG E ops Q (o::l) O G:=fun a w S st=>
 wpListIn_plain Z fun _ hK=>gj hK (h a w S st)

def oq{op:Op}{ty:TypeId}(h:bJ E O G ⟨some d,op,ty,pos,after,none⟩ t)(hd:Nat.blt d E.N.n=true)(k:RG E ops Q l O ((d,t)::G)):
  RG E ops Q (⟨some d,op,ty,pos,after,none⟩::l) O G:= .of rfl fun a w S st=>
 jv (fun a' w' ⟨_,_,ha,he,hs,hv⟩=>by subst ha;exact k _ _ _ (st.step he hs hd hv)) (h a w S st.sat st.own st.facts)
def bc(h:AT E Q .normal O G):RG E ops Q [] O G:=fun a w S st=>h a w S st
def aC{id:Nat}{l:List Oper}(h:RG E l.toArray Q l O G):CG E Q (.region id l.toArray false) O G:=fun a w S st=>wpIn_region_lit (h a w S st)
def aF{x y:Code}(h:CG E (Exit.then (y.wpIn (fw E.r) 0 E.P Q) Q) x O G):CG E Q (.seq x y) O G:=fun a w S st=>wpIn_seq (h a w S st)
def au{y:Code}(h:CG E Q y O G):AT E (Exit.then (y.wpIn (fw E.r) 0 E.P Q) Q) .normal O G:=h
def bH(h:AT E Q .normal O G):CG E Q .skip O G:=fun a w S st=>wpIn_skip (h a w S st)
def d8{id:Nat}(h:AT E Q (.exit id) O G):CG E Q (.exit id) O G:=fun a w S st=>wpIn_exit (h a w S st)
def hJ(h:AT E Q .ret O G):CG E Q .ret O G:=fun a w S st=>wpIn_ret (h a w S st)
def Dv(h:CG E Q c O G')(k:zk G' G):CG E Q c O G:=fun a w S st=>h a w S (st.sub k)
def bY{e:Exit}(h:AT E Q e O G')(k:zk G' G):AT E Q e O G:=fun a w S st=>h a w S (st.sub k)
def lJ{c:Operand}{x y:Code}(V:aD E.N G c (X rB b))(I:b=true->CG E Q x O G)(hy:b=false->CG E Q y O G):CG E Q (.cond c x y) O G:=fun a w S st=>by
 have hv:a.eval c= .bool b:=fz.1 (V S a st.facts)
 refine wpIn_cond hv ?_
 cases b with
 |true=>exact I rfl a w S st
 |false=>exact hy rfl a w S st
def am{id:Nat}(h:CG E (Exit.inBlock id Q) c O G):CG E Q (.block id c) O G:=fun a w S st=>wpIn_block (h a w S st)
def qL(r:Option Nat)(P:Program)(c:Code)(Q:Exit->Act->World->Prop)(a:Act)(w:World):Prop:=
 ∀(b:Frame) (k:List Item) (cs:List Frame),b.roundOf=r-> ∃e a' w',Q e a' w' /\ArrivesIn (Machine.fenced P (fw r)) P (lone (b.atR a (.code c:: .inLoop c::k)) cs w) b k cs e a' w'
def Az{r:Option Nat}{n:Nat}:(fw r).room n:=fun _ hd=>by cases hd
def wE{r:Option Nat}{P:Program}{Q:Exit->Act->World->Prop}(h:qL r P c Q a w):(Code.loop c).wpIn (fw r) 0 P Q a w:=fun b k cs hro V hr=>
 let⟨e,a',w',hq,harr⟩:=h b k cs hro
 ⟨e,a',w',hq,.of_steps (.one (fenced_calm V hr rfl) stepR_loop) harr⟩
def vz{r:Option Nat}{P:Program}{Q:Exit->Act->World->Prop}(h:c.wpIn (fw r) 0 P (Exit.then (qL r P c Q) Q) a w):qL r P c Q a w:=by
 intro b k cs hro
 obtain⟨e,a₁,w₁,hq,harr⟩:=h b (.inLoop c::k) cs hro trivial Az
 cases e with
 |normal=>
  obtain⟨e₂,a₂,w₂,hq₂,harr₂⟩:=hq b k cs hro
  exact⟨e₂,a₂,w₂,hq₂,.of_steps (StepsIn.trans harr (.one (fenced_calm (n:=0) (F:=fw r) trivial Az rfl) stepR_inLoop)) harr₂⟩
 |exit id=>exact⟨_,a₁,w₁,hq,.pass (x:= .inLoop c) rfl (fun _ _=> .inl (by simp)) harr⟩
 |goto l=>exact⟨_,a₁,w₁,hq,.pass (x:= .inLoop c) rfl (fun _ _=> .inl (by simp)) harr⟩
 |ret=>exact⟨_,a₁,w₁,hq,.pass (x:= .inLoop c) rfl (fun _ _=> .inl (by simp)) harr⟩
 |panic ch=>exact⟨_,a₁,w₁,hq,.pass (x:= .inLoop c) rfl (fun _ _=> .inl (by simp)) harr⟩
 |outgrown=>exact⟨_,a₁,w₁,hq,.pass (x:= .inLoop c) rfl (fun _ _=> .inl (by simp)) harr⟩
def LG(E:En)(Q:Exit->Act->World->Prop)(c:Code)(O:List OE)(G:gJ):Prop:= ∀a w S,St E O G a w S->qL E.r E.P c Q a w
def bP(h:LG E Q c O G):CG E Q (.loop c) O G:=fun a w S st=>wE (h a w S st)
def fN(h:CG E (Exit.then (qL E.r E.P c Q) Q) c O G):LG E Q c O G:=fun a w S st=>vz (h a w S st)
def aN(h:LG E Q c O G')(k:zk G' G):LG E Q c O G:=fun a w S st=>h a w S (st.sub k)
def aY(h:LG E Q c O G):AT E (Exit.then (qL E.r E.P c Q) Q) .normal O G:=h
def ax{id:Nat}(h:AT E Q (.exit id) O G):AT E (Exit.then ae Q) (.exit id) O G:=h
def ak(h:AT E Q .ret O G):AT E (Exit.then ae Q) .ret O G:=h
def jG{id:Nat}(h:AT E Q .ret O G):AT E (Exit.inBlock id Q) .ret O G:=h
def aO{id:Nat}(h:AT E Q .normal O G):AT E (Exit.inBlock id Q) .normal O G:=h
def cE{id:Nat}(h:AT E Q .normal O G):AT E (Exit.inBlock id Q) (.exit id) O G:=fun a w S st=>by
 simp only [Exit.inBlock,ni];exact h a w S st
def bA{id id' :Nat}(hne:Nat.beq id' id=false)(h:AT E Q (.exit id') O G):AT E (Exit.inBlock id Q) (.exit id') O G:=fun a w S st=>by
 have:id' ≠id:=fun e=>by subst e;simp at hne
 simp only [Exit.inBlock,this,ov];exact h a w S st

def pm(S:SH):List Ty->List Value->Prop
 |[],[]=>True
 |t::ts,v::vs=>t.p S v/\pm S ts vs
 |_,_=>False
def pm.mono(h:kT S S'): ∀{ts:List Ty} {vs:List Value},pm S ts vs->pm S' ts vs
 |[],[],_=>trivial
 |t::_,_::_,⟨Y,H⟩=>⟨t.mono h Y,pm.mono h H⟩
def pm.length: ∀{ts:List Ty} {vs:List Value},pm S ts vs->vs.length=ts.length
 |[],[],_=>rfl
 |_::_,_::_,⟨_,H⟩=>by simp [pm.length H]
def cj(P:Program)(f:FuncId)(ts:List Ty)(t:Ty):Prop:=
 ∀w S vs,gc w S->pm S ts vs->Calls P f vs.toArray w fun e w' => ∃v S',e= .returned v/\ez la w S w' S' /\gc w' S' /\t.p S' v
def vD(E:En)(t:Ty):Ending->World->Prop:=fun e w' => ∃v S',e= .returned v/\ez E.B E.w0 E.S0 w' S' /\gc w' S' /\t.p S' v
def ol(k:Nat):List Ty->gJ
 |[]=>[]
 |t::ts=>(k,t)::ol (k+1) ts
def uD: ∀(ts:List Ty) (k j:Nat) (t:Ty),bu (ol k ts) j=some t-> ∃i,j=k+i/\ts[i]? =some t
 |[],_,_,_,h=>by simp [ol,bu]at h
 |u::ts,k,j,t,h=>by
  unfold ol bu at h
  by_cases V:Nat.beq k j=true
  ·rw [V]at h
   exact⟨0,by rw [kB V];rfl,by simpa using h⟩
  ·rw [q8]at V
   rw [V]at h
   obtain⟨i,Y,H⟩:=uD ts (k+1) j t h
   exact⟨i+1,by omega,by simpa using H⟩
def pm.at_: ∀{ts:List Ty} {vs:List Value} (_:pm S ts vs) (i:Nat) (t:Ty),ts[i]? =some t-> ∃v,vs[i]? =some v/\t.p S v
 |_::_,v::_,⟨Y,_⟩,0,t,h=>⟨v,rfl,by simp at h;rw [<-h];exact Y⟩
 |_::ts,_::vs,⟨_,H⟩,i+1,t,h=>by simpa using pm.at_ H i t (by simpa using h)
def lv{vs:List Value}(h:pm S ts vs)(n:Nat)(hn:ts.length<=n):
  db ⟨n,[]⟩ S {tmps:=vs.toArray++Array.replicate (n-vs.toArray.size) undef,defers:=[]} (ol 0 ts):=by
 have hl:=h.length
 refine⟨by simp;omega,rfl,fun j t hj=>?_⟩
 obtain⟨i,e,hi⟩:=uD ts 0 j t hj
 have e' :j=i:=by omega
 subst e'
 obtain⟨v,hv,D⟩:=h.at_ j t hi
 have hlt:j<vs.length:=(mH.1 hv).1
 have:(vs.toArray++Array.replicate (n-vs.toArray.size) undef).getD j undef=v:=by
  rw [wB,Array.getElem?_append_left (by simpa using hlt)]
  simp [hv]
 rw [this];exact D
def xq{P:Program}(M:P.funcs[f]? =some fn)(V:fn.body=some c)(hn:ts.length<=fn.ntmps)(h: ∀w0 S0,CG ⟨P,⟨fn.ntmps,[]⟩,la,w0,S0,none⟩ (bodyPost P fn (vD ⟨P,⟨fn.ntmps,[]⟩,la,w0,S0,none⟩ t)) c [] (ol 0 ts)):cj P f ts t:=by
 intro w S vs hs hv
 exact jo.1 (callsIn_of_wp (F:=fw none) (n:=0) M V trivial (h w S _ w S ⟨ez.refl _ _ _,hs,trivial,lv hv _ hn⟩))
def ir(P:Program)(fn:Func)(k:Nat)(h:fn.results= #[.tmp k])(tmps:Array Value)(w:World):(results fn tmps).run P w= .ok (tmps.getD k undef) w:=by
 simp [results,h]
def bl{P:Program}{N:Nat}{B:Nat->Prop}{w0:World}{S0:SH}(hr:fn.results= #[.tmp k])(hk:bu G k=some t):
  AT ⟨P,⟨N,[]⟩,B,w0,S0,none⟩ (bodyPost P fn (vD ⟨P,⟨N,[]⟩,B,w0,S0,none⟩ t)) .ret O G:=fun _ _ S st=>
 ⟨st.facts.defers,_,ir P fn k hr _ _,_,S,rfl,st.ext,st.sat,st.facts.at_ k t hk⟩
def tT(ts:List Ty):Ty where
 p:=fun S v=> ∃vs,v= .tuple vs.toArray/\pm S ts vs
 mono:=fun h k=>by obtain⟨vs,e,k⟩:=k;exact⟨vs,e,pm.mono h k⟩
def tm(P:Program)(fn:Func)(j k:Nat)(h:fn.results= #[.tmp j,.tmp k])(tmps:Array Value)(w:World):(results fn tmps).run P w= .ok (.tuple #[tmps.getD j undef,tmps.getD k undef]) w:=by
 simp [results,h]
def dE{P:Program}{N:Nat}{B:Nat->Prop}{w0:World}{S0:SH}{u:Ty}(hr:fn.results= #[.tmp j,.tmp k])(hj:bu G j=some t)(hk:bu G k=some u):
  AT ⟨P,⟨N,[]⟩,B,w0,S0,none⟩ (bodyPost P fn (vD ⟨P,⟨N,[]⟩,B,w0,S0,none⟩ (tT [t,u]))) .ret O G:=fun _ _ S st=>
 ⟨st.facts.defers,_,tm P fn j k hr _ _,_,S,rfl,st.ext,st.sat,[_,_],rfl,st.facts.at_ j t hj,st.facts.at_ k u hk,trivial⟩
def rj(P:Program)(fn:Func)(i j k:Nat)(h:fn.results= #[.tmp i,.tmp j,.tmp k])(tmps:Array Value)(w:World):(results fn tmps).run P w= .ok (.tuple #[tmps.getD i undef,tmps.getD j undef,tmps.getD k undef]) w:=by
 simp [results,h]
def E6{P:Program}{N:Nat}{B:Nat->Prop}{w0:World}{S0:SH}{s u:Ty}(hr:fn.results= #[.tmp i,.tmp j,.tmp k])(hi:bu G i=some s)(hj:bu G j=some t)(hk:bu G k=some u):
  AT ⟨P,⟨N,[]⟩,B,w0,S0,none⟩ (bodyPost P fn (vD ⟨P,⟨N,[]⟩,B,w0,S0,none⟩ (tT [s,t,u]))) .ret O G:=fun _ _ S st=>
 ⟨st.facts.defers,_,rj P fn i j k hr _ _,_,S,rfl,st.ext,st.sat,[_,_,_],rfl,st.facts.at_ i s hi,st.facts.at_ j t hj,st.facts.at_ k u hk,trivial⟩
def si(P:Program)(fn:Func)(h:fn.results= #[])(tmps:Array Value)(w:World):(results fn tmps).run P w= .ok (.tuple #[]) w:=by
 simp [results,h]
end

variable{dst:Option Tmp}{g:Option (Nat×Bool)}{xt yt:TypeId}
section
variable{E:En}{ty:TypeId}
def bJ.of_run(h: ∀a w S,gc w S->cF E.base E.B w S O->db E.N S a G->
  ∃v w' S',(execOp a.eval o).run E.P w= .ok (.value v) w' /\ez la w S w' S' /\gc w' S' /\t.p S' v)(hd: ∀c,o.op≠ .defer c:=by intro c h;cases h):bJ E O G o t:=fun a w S hs ho M=>by
 obtain⟨v,w',S',hr,he,hs',hv⟩:=h a w S hs ho M
 refine⟨hd,?_⟩
 rw [hr]
 exact⟨v,S',rfl,he,hs',hv⟩
def bJ.of_pure(h: ∀a w S,gc w S->cF E.base E.B w S O->db E.N S a G-> ∃v,(execOp a.eval o).run E.P w= .ok (.value v) w/\t.p S v)(hd: ∀c,o.op≠ .defer c:=by intro c h;cases h):bJ E O G o t:=
 .of_run (fun a w S hs ho M=>let⟨v,hr,hv⟩:=h a w S hs ho M;⟨v,w,S,hr,ez.refl _ _ _,hs,hv⟩) hd

def bS(I:aD E.N G x t):bJ E O G ⟨dst,.move x,ty,pos,after,g⟩ t:=
 .of_pure fun a _ S _ _ M=>⟨a.eval x,rfl,I S a M⟩
def bF(I:aD E.N G x t):bJ E O G ⟨dst,.assign x,ty,pos,after,g⟩ t:=
 .of_pure fun a _ S _ _ M=>⟨a.eval x,rfl,I S a M⟩
def tA{c:Operand}(hc:aD E.N G c (X rB b))(I:b=true->aD E.N G x t)(hy:b=false->aD E.N G y t):bJ E O G ⟨dst,.pick c x y,ty,pos,after,g⟩ t:=
 .of_pure fun a _ S _ _ M=>by
  have Y:a.eval c= .bool b:=fz.1 (hc S a M)
  refine⟨if b then a.eval x else a.eval y,by simp [execOp,Y,asBool],?_⟩
  cases b with
  |true=>exact I rfl S a M
  |false=>exact hy rfl S a M

section
variable{k:IntKind}{m n:Int}
def yL{P:Program}{op:BinOp}{xt:TypeId}{x y:Operand}{k k' :IntKind}{m n:Int}:(eqGuard op xt x y (.int k m) (.int k' n)).run P w= .ok () w:=by
 unfold eqGuard
 cases op<;>rfl
def pF{op:BinOp}(I:aD E.N G x (X (rI k) m))(hy:aD E.N G y (X (rI k) n))(hv: ∀P w,(binOp op xt (.int k m) (.int k n)).run P w= .ok v w)(D: ∀S,t.p S v):
  bJ E O G ⟨dst,.binOp op xt x y yt,ty,pos,after,g⟩ t:=
 .of_pure fun a w S _ _ M=>by
  have Y:a.eval x= .int k m:=dG.1 (I S a M)
  have H:a.eval y= .int k n:=dG.1 (hy S a M)
  refine⟨v,?_,D S⟩
  simp [execOp,Y,H,yL,hv]
def eh(I:aD E.N G x (X (rI k) m))(hy:aD E.N G y (X (rI k) n)):bJ E O G ⟨dst,.binOp .add xt x y yt,ty,pos,after,g⟩ (X (rI k) (k.wrap (m+n))):=
 pF I hy (fun _ _=>by simp [binOp,Op.intArith]) (fun _=>dG.2 rfl)
def cY(I:aD E.N G x (X (rI k) m))(hy:aD E.N G y (X (rI k) n)):bJ E O G ⟨dst,.binOp .sub xt x y yt,ty,pos,after,g⟩ (X (rI k) (k.wrap (m-n))):=
 pF I hy (fun _ _=>by simp [binOp,Op.intArith]) (fun _=>dG.2 rfl)
def eO(I:aD E.N G x (X (rI k) m))(hy:aD E.N G y (X (rI k) n)):bJ E O G ⟨dst,.binOp .lss xt x y yt,ty,pos,after,g⟩ (X rB (decide (m<n))):=
 pF I hy (fun _ _=>by simp [binOp,Op.intCmp]) (fun _=>fz.2 rfl)
def iK(I:aD E.N G x (X (rI k) m))(hy:aD E.N G y (X (rI k) n)):bJ E O G ⟨dst,.binOp .leq xt x y yt,ty,pos,after,g⟩ (X rB (decide (m<=n))):=
 pF I hy (fun _ _=>by simp [binOp,Op.intCmp]) (fun _=>fz.2 rfl)
def mf(I:aD E.N G x (X (rI k) m))(hy:aD E.N G y (X (rI k) n)):bJ E O G ⟨dst,.binOp .gtr xt x y yt,ty,pos,after,g⟩ (X rB (decide (n<m))):=
 pF I hy (fun _ _=>by simp [binOp,Op.intCmp]) (fun _=>fz.2 rfl)
def dB(I:aD E.N G x (X (rI k) m))(hy:aD E.N G y (X (rI k) n)):bJ E O G ⟨dst,.binOp .geq xt x y yt,ty,pos,after,g⟩ (X rB (decide (n<=m))):=
 pF I hy (fun _ _=>by simp [binOp,Op.intCmp]) (fun _=>fz.2 rfl)
def fF(I:aD E.N G x (X (rI k) m))(hy:aD E.N G y (X (rI k) n)):bJ E O G ⟨dst,.binOp .eql xt x y yt,ty,pos,after,g⟩ (X rB (m==n)):=
 pF I hy (fun _ _=>by simp [binOp,Op.intCmp]) (fun _=>fz.2 rfl)
def ia(I:aD E.N G x (X (rI k) m))(hy:aD E.N G y (X (rI k) n)):bJ E O G ⟨dst,.binOp .neq xt x y yt,ty,pos,after,g⟩ (X rB (m !=n)):=
 pF I hy (fun _ _=>by simp [binOp,Op.intCmp]) (fun _=>fz.2 rfl)
def wP(I:aD E.N G x (X (rI k) m)):bJ E O G ⟨dst,.unOp .neg xt x,ty,pos,after,g⟩ (X (rI k) (k.wrap (0-m))):=
 .of_pure fun a w S _ _ M=>by
  have Y:a.eval x= .int k m:=dG.1 (I S a M)
  exact⟨.int k (k.wrap (0-m)),by simp [execOp,Y,Op.unary,Op.intArith],dG.2 rfl⟩
def fV(I:aD E.N G x (X rB b)):bJ E O G ⟨dst,.unOp .not xt x,ty,pos,after,g⟩ (X rB (!b)):=
 .of_pure fun a w S _ _ M=>by
  have Y:a.eval x= .bool b:=fz.1 (I S a M)
  exact⟨.bool (!b),by simp [execOp,Y,Op.unary],fz.2 rfl⟩
end

def rk{P:Program}{t:TypeId}{x y:Value}(V: ∀d,(Op.equalIn (d+1) t x y).run P w= .ok b w):(Op.equal t x y).run P w= .ok b w:=V 9999
section
def FN{op:BinOp}{u:BH}(I:aD E.N G x (X rS s))(hy:aD E.N G y (X rS u))(hv: ∀P w,(Op.stringOp op ⟨s.toArray⟩ ⟨u.toArray⟩).run P w= .ok (.bool b) w)(Z: ∀P w,(eqGuard op xt x y (.string ⟨s.toArray⟩) (.string ⟨u.toArray⟩)).run P w= .ok () w)(V: ∀P w,(binOp op xt (.string ⟨s.toArray⟩) (.string ⟨u.toArray⟩)).run P w=(Op.stringOp op ⟨s.toArray⟩ ⟨u.toArray⟩).run P w):
  bJ E O G ⟨dst,.binOp op xt x y yt,ty,pos,after,g⟩ (X rB b):=
 .of_pure fun a w S _ _ M=>by
  have Y:a.eval x= .string ⟨s.toArray⟩:=sd.1 (I S a M)
  have H:a.eval y= .string ⟨u.toArray⟩:=sd.1 (hy S a M)
  refine⟨.bool b,?_,fz.2 rfl⟩
  simp [execOp,Y,H,Z,V,hv]
def wS{u:BH}(I:aD E.N G x (X rS s))(hy:aD E.N G y (X rS u)):bJ E O G ⟨dst,.binOp .eql xt x y yt,ty,pos,after,g⟩ (X rB (s==u)):=
 FN I hy (fun _ _=>by simp [Op.stringOp]) (fun _ _=>rfl) (fun _ _=>rfl)
end
end

def CJ:TypeDesc->Bool
 | .struct _| .array _ _=>true
 |_=>false
structure TI(P:Program)(aT:TypeId)(sz bytes:Nat)(agg:Bool)(z:List Value):Prop where
 info:(P.info? aT).map (fun i=>(i.zero.map (·.cells.toList),i.size,i.bytes))=some (some z,sz,bytes)
 ag:(P.underlying aT).map CJ=some agg
variable{aT:TypeId}{bytes:Nat}{z:List Value}
section
variable{P:Program}{sz:Nat}{agg:Bool}
def TI.get(h:TI P aT sz bytes agg z): ∃i zv,P.info? aT=some i/\i.size=sz/\i.bytes=bytes/\i.zero=some zv/\zv.cells=z.toArray:=by
 have:=h.info
 cases hi:P.info? aT with
 |none=>rw [hi]at this;simp at this
 |some i=>
  rw [hi]at this
  simp only [Option.map_some,Option.some.injEq,Prod.mk.injEq,wA]at this
  obtain⟨⟨zv,Y,H⟩,h3,h4⟩:=this
  exact⟨i,zv,rfl,h3,h4,Y,by rw [<-H]⟩
def TI.sizeOf(h:TI P aT sz bytes agg z)(w:World):(Go.sizeOf aT).run P w= .ok sz w:=by
 obtain⟨i,zv,Y,H,_⟩:=h.get
 simp [Go.sizeOf,typeInfo,Y,H]
def TI.isAgg(h:TI P aT sz bytes agg z)(w:World):(Go.isAgg aT).run P w= .ok agg w:=by
 have:=h.ag
 cases hi:P.underlying aT with
 |none=>rw [hi]at this;simp at this
 |some d=>
  rw [hi]at this
  simp only [Option.map_some,Option.some.injEq]at this
  simp only [Go.isAgg,ow,gy hi,pp]
  rw [<-this]
  cases d<;>simp [CJ]
def TI.zero(h:TI P aT sz bytes agg z)(w:World): ∃zv,(zeroValue aT).run P w= .ok zv w/\zv.cells=z.toArray:=by
 obtain⟨i,zv,Y,_,_,h4,h5⟩:=h.get
 exact⟨zv,by simp [zeroValue,typeInfo,Y,h4],h5⟩
end

def fe(b off i:Nat):(⟨b,off,none⟩:Addr).add i=⟨b,off+i,none⟩:=by
 unfold Addr.add
 split
 ·simp_all
 ·rfl
def rK{b:Nat}{c:Array Value}(h:w.heap[b]? =some (.cells c aT fr))(i:Nat):w.cell? ⟨b,i,none⟩=c[i]? :=by
 simp [World.cell?,h]
def sm{P:Program}{b n:Nat}{c:Array Value}(h:w.heap[b]? =some (.cells c aT fr))(hcs:(c.toList.drop off).take n=cs)(hl:cs.length=n):
  (loadCells ⟨b,off,none⟩ n).run P w= .ok cs.toArray w:=by
 rw [<-hl]
 refine run_loadCells_list w ⟨b,off,none⟩ cs fun j v hv=>?_
 rw [fe,rK h]
 have hj:j<cs.length:=(mH.1 hv).1
 rw [<-hcs,tN (by omega),qg]at hv
 simpa using hv
variable{U:TypeId}{rest:List Oper}
def fa{P:Program}{b:Nat}{c:Array Value}{sz:Nat}{agg:Bool}(ti:TI P U sz bytes agg z)(h:w.heap[b]? =some (.cells c aT fr)){r:Rp α}(hsz:r.sz=sz)(hag:r.agg=agg){x:α}(I:r.rc S ((c.toList.drop off).take r.sz) x):
  (loadVar U ⟨b,off,none⟩).run P w= .ok (r.val ((c.toList.drop off).take r.sz)) w:=by
 have hl:=r.len I
 subst hsz
 subst hag
 simp only [loadVar,ow,ti.isAgg,pp]
 cases ha:r.agg with
 |true=>simp [ti.sizeOf,sm h rfl hl,Rp.val,ha]
 |false=>
  have Y:=r.sc ha
  have hcell:w.cell? ⟨b,off,none⟩=some (((c.toList.drop off).take r.sz).headD undef):=by
   rw [rK h]
   rw [Y]at hl ⊢
   cases hd:c.toList.drop off with
   |nil=>rw [hd]at hl;simp at hl
   |cons v rest=>
    have:(c.toList.drop off)[0]? =some v:=by rw [hd];rfl
    rw [qg]at this
    simpa using this
  simp [hcell,Rp.val,ha]

variable{ats:Array TypeId}{q:Rp β}
section
variable{E:En}{ty:TypeId}
def d6{r:Rp α}{x:α}{p:Operand}{sz:Nat}{agg:Bool}(ti:TI E.P U sz bytes agg z)(hsz:r.sz=sz)(hag:r.agg=agg)(hp:aD E.N G p (bp r x)):
  bJ E O G ⟨dst,.load U p,ty,pos,after,g⟩ (X r x):=
 .of_pure fun a w S hs _ M=>by
  obtain⟨b,off,c,aT,fr,Y,H,h3⟩:=hp S a M
  obtain⟨c',h4,h5⟩:=hs.part H (r.len h3)
  rw [<-h5]at h3
  refine⟨r.val ((c'.toList.drop off).take r.sz),?_,_,rfl,h3⟩
  simp [execOp,Y,Instr.loadAt,Instr.sureAddr,fa ti h4 hsz hag h3]

def EX(s:BH):(ByteArray.mk s.toArray).size=s.length:=by simp [ByteArray.size]
def fc{r:Rp α}{t:TypeId}(D:E.P.underlying t=some (.slice e))(I:aD E.N G x (X (eY r) xs)):
  bJ E O G ⟨dst,.call ⟨.builtin .len,#[x],#[t]⟩,ty,pos,after,g⟩ (X (rI .i64) (xs.length:Int)):=
 .of_pure fun a w S _ _ M=>by
  obtain⟨ad,cap,Y,_⟩:=iS.1 (I S a M)
  refine⟨.int .i64 xs.length,?_,dG.2 rfl⟩
  simp [execOp,resolve,invoke,builtin,Builtin.len_,gy D,Y,goInt]
def wR{t:TypeId}(D:E.P.underlying t=some .string)(I:aD E.N G x (X rS s)):
  bJ E O G ⟨dst,.call ⟨.builtin .len,#[x],#[t]⟩,ty,pos,after,g⟩ (X (rI .i64) (s.length:Int)):=
 .of_pure fun a w S _ _ M=>by
  have Y:a.eval x= .string ⟨s.toArray⟩:=sd.1 (I S a M)
  refine⟨.int .i64 s.length,?_,dG.2 rfl⟩
  simp [execOp,resolve,invoke,builtin,Builtin.len_,gy D,Y,goInt,EX]

def eG{α:Type}(xs:List α)(i:Int):Option α:=if 0<=i then xs[i.toNat]? else none
def iW(xs:List α)(i:Nat):eG xs (i:Int)=xs[i]? :=by simp [eG]
def Bi{r:Rp α}{a:Option Addr}(h:xV r S a xs){x:α}(I:xs[i]? =some x):
  ∃b off c aT fr,a=some ⟨b,off,none⟩/\S b=some (.cells c aT fr)/\r.rc S ((c.toList.drop (off+i*r.sz)).take r.sz) x:=by
 rcases h with rfl|⟨b,off,c,aT,fr,e1,e2,e3⟩
 ·simp at I
 ·refine⟨b,off,c,aT,fr,e1,e2,?_⟩
  have h:=oJ e3 I
  have hi:i<xs.length:=(mH.1 I).1
  rw [td,q5,lW]at h
  have:min r.sz (xs.length*r.sz-i*r.sz)=r.sz:=by
   rw [<-Nat.sub_mul]
   have:1*r.sz<=(xs.length-i)*r.sz:=q9 _ (by omega)
   omega
  rw [this]at h
  exact h
def bj{r:Rp α}{y:α}{ix:Operand}{t:TypeId}{k:IntKind}{i:Int}{sz:Nat}{agg:Bool}(D:E.P.underlying t=some (.slice e))(ti:TI E.P e sz bytes agg z)(hsz:r.sz=sz)(I:aD E.N G x (X (eY r) xs))(hi:aD E.N G ix (X (rI k) i))(hy:eG xs i=some y):
  bJ E O G ⟨dst,.indexAddr t x ix,ty,pos,after,g⟩ (bp r y):=
 .of_pure fun a w S _ _ M=>by
  obtain⟨ad,cap,Y,_,_,H⟩:=iS.1 (I S a M)
  have h3:a.eval ix= .int k i:=dG.1 (hi S a M)
  have h0:0<=i:=by unfold eG at hy;split at hy;assumption;cases hy
  have hy' :xs[i.toNat]? =some y:=by unfold eG at hy;rw [eF h0]at hy;exact hy
  have hlt:i.toNat<xs.length:=(mH.1 hy').1
  obtain⟨b,off,c,aT,fr,e1,e2,e3⟩:=Bi H hy'
  subst e1
  refine⟨.pointer (some ⟨b,off+i.toNat*r.sz,none⟩),?_,b,_,c,aT,fr,rfl,e2,e3⟩
  have hc:0<=i/\i<(xs.length:Int):=⟨h0,by omega⟩
  simp [execOp,Y,h3,Instr.indexAt,asIntOf,gy D,hc,ti.sizeOf,fe,hsz]

def jE{α β:Type}(r:Rp α)(off:Nat)(q:Rp β)(get:α->β):Prop:= ∀S cs x,r.rc S cs x->q.rc S ((cs.drop off).take q.sz) (get x)
def co(P:Program)(aT:TypeId)(i:Nat):Option (Nat×Nat):=
 match P.underlying aT with
 |some (.struct fs)=>(fs[i]?).bind fun f=>(P.info? f.type).map fun q=>(f.offset,q.size)
 |_=>none
def sn{P:Program}{sz:Nat}(h:co P aT i=some (off,sz)): ∃fs f,P.underlying aT=some (.struct fs)/\fs[i]? =some f/\f.offset=off/\ ∀w,(sizeOf f.type).run P w= .ok sz w:=by
 unfold co at h
 split at h
 ·rename_i fs hu
  cases M:fs[i]? with
  |none=>rw [M]at h;simp at h
  |some f=>
   rw [M]at h
   cases hq:P.info? f.type with
   |none=>simp [hq]at h
   |some q=>
    simp [hq]at h
    exact⟨fs,f,hu,M,h.1,fun w=>by simp [sizeOf,typeInfo,hq,h.2]⟩
 ·cases h
def fE{r:Rp α}{get:α->β}{x:α}{sz:Nat}{p:Operand}(M:co E.P aT i=some (off,sz))(h0:Nat.beq sz 0=false)(hq:jE r off q get)(hoff:Nat.ble (off+q.sz) r.sz=true)(hp:aD E.N G p (bp r x)):bJ E O G ⟨dst,.fieldAddr aT p i,ty,pos,after,g⟩ (bp q (get x)):=
 .of_pure fun a w S _ _ hF=>by
  obtain⟨b,o,c,U,fr,Y,H,h3⟩:=hp S a hF
  obtain⟨fs,f,e1,e2,e3,e4⟩:=sn M
  have h0' :sz≠0:=fun e=>by subst e;simp at h0
  have hoff' :off+q.sz<=r.sz:=lL hoff
  refine⟨.pointer (some ⟨b,o+off,none⟩),?_,b,_,c,U,fr,rfl,H,?_⟩
  ·simp [execOp,Y,Instr.fieldAt,gy e1,e2,Instr.sureAddr,fieldPlace,e4,h0',e3,fe]
  ·have:=hq S _ x h3
   rw [td,q5,lW,qx (by omega)]at this
   exact this
def ah(P:Program)(f:FuncId):Bool:=
 match P.funcs[f]? with
 |some fn=> !(fn.name== "runtime.NumGoroutine")&&fn.body.isSome
 |none=>false
def dN{P:Program}(h:ah P f=true)(args:Array Value)(w:World):(callFunc f args).run P w= .ok (.enter f args) w:=by
 unfold ah at h
 cases M:P.funcs[f]? with
 |none=>rw [M]at h;cases h
 |some fn=>
  rw [M]at h
  simp only [kA,za]at h
  have Y:fn.name≠ "runtime.NumGoroutine" :=by simpa using h.1
  have H:fn.body≠none:=fun e=>by rw [e]at h;simp at h
  simp [callFunc,M,Y,H]
def ew(N:Fr)(G:gJ):List Operand->List Ty->Prop
 |[],[]=>True
 |x::xs,t::ts=>aD N G x t/\ew N G xs ts
 |_,_=>False
def ew.tys{N:Fr}(hF:db N S a G): ∀{xs:List Operand} {ts:List Ty},ew N G xs ts->pm S ts (xs.map a.eval)
 |[],[],_=>trivial
 |_::_,_::_,⟨Y,H⟩=>⟨Y S a hF,ew.tys hF H⟩
def cg{xs:List Operand}(hc:ah E.P f=true)(hs:cj E.P f ts t)(I:ew E.N G xs ts):
  bJ E O G ⟨dst,.call ⟨.value (.func f),xs.toArray,ats⟩,ty,pos,after,g⟩ t:=fun a w S hS _ hF=>by
 have hr:(execOp a.eval ⟨dst,.call ⟨.value (.func f),xs.toArray,ats⟩,ty,pos,after,g⟩).run E.P w= .ok (.enter f (xs.map a.eval).toArray) w:=by
  simp [execOp,resolve,Act.eval,Deferred.ofValue,invoke,dN hc]
 refine⟨fun c h=>(by cases h),?_⟩
 rw [hr]
 exact(hs w S _ hS (I.tys hF)).mono fun e w' ⟨v,S',he,Y,H,h3⟩=>⟨v,he,v,S',rfl,Y,H,h3⟩
end

def iE{o:Obj}(h:k<w.heap.size):(w.alloc o).heap[k]? =w.heap[k]? :=RowKit.Below.heap_alloc w o k h
def SH.set(S:SH)(b:Nat)(o:Obj):SH:=fun k=>if k=b then some o else S k
def ku(S:SH)(b:Nat)(o:Obj):S.set b o b=some o:=eF rfl
def lB(S:SH){b:Nat}(o:Obj)(h:k≠b):S.set b o k=S k:=ei h
def sG{b:Nat}{o:Obj}(h: ∀q,S b=some q->yl q o):kT S (S.set b o):=fun k q hq=>by
 by_cases hk:k=b
 ·subst hk;exact⟨o,ku _ _ _,h q hq⟩
 ·exact⟨q,by rw [lB _ _ hk];exact hq,mX q⟩
def gc.set(h:gc w S){b:Nat}{o:Obj}(Y:w.heap[b]? =some o')(H:yl o o')(h3: ∀q,S b=some q->yl q o):gc w (S.set b o):=by
 refine⟨fun k q hq=>?_,fun p hp=>?_,fun w' hw' =>h.tb w' fun k q hq=>?_⟩
 ·by_cases hk:k=b
  ·subst hk
   rw [ku]at hq
   cases hq
   exact⟨o',Y,H⟩
  ·rw [lB _ _ hk]at hq;exact h k q hq
 ·obtain⟨c,aT,fr,g1,g2⟩:=h.gl p hp
  by_cases hk:p.1=b
  ·subst hk
   obtain⟨d,hd⟩:=h3 _ g1
   refine⟨_,aT,fr,by rw [ku,hd],?_⟩
   rw [List.toList_toArray,qA ?_]
   ·exact g2
   ·have:=congrArg List.length g2
    rw [ww]at this
    omega
  ·exact⟨c,aT,fr,by rw [lB _ _ hk];exact g1,g2⟩
 ·by_cases hk:k=b
  ·subst hk
   obtain⟨o1,g1,g2⟩:=hw' k o (ku _ _ _)
   exact⟨o1,g1,vN (h3 q hq) g2⟩
  ·exact hw' k q (by rw [lB _ _ hk];exact hq)
def eX(o:Obj)(hs:gc w S):ez la w S (w.alloc o) S/\gc (w.alloc o) S/\S w.heap.size=none:=by
 refine⟨⟨rfl,rfl,rfl,iZ _,by simp,fun k hk _=>iE hk,SH.le_refl _,fun _ _ _=>rfl⟩,hs.same fun b q V=>iE (hs.lt V),?_⟩
 cases h:S w.heap.size with
 |none=>rfl
 |some q=>have:=hs.lt h;omega
def nP(o:Obj)(hs:gc w S):ez la w S (w.alloc o) (S.set w.heap.size o)/\gc (w.alloc o) (S.set w.heap.size o):=by
 obtain⟨Y,H,h3⟩:=eX o hs
 refine⟨⟨rfl,rfl,rfl,iZ _,by simp,fun k hk _=>iE hk,sG fun q hq=>(by rw [h3]at hq;cases hq),fun k hk _=>lB _ _ (by omega)⟩,H.set (wv w o) (mX o) fun q hq=>by rw [h3]at hq;cases hq⟩
def pT(hs:gc w S):ez la w S w.drew S/\gc w.drew S:=⟨⟨rfl,rfl,rfl,Nat.le_succ _,iZ _,fun _ _ _=>rfl,SH.le_refl _,fun _ _ _=>rfl⟩,hs.same fun _ _ _=>rfl⟩

def aM(l:Option Nat)(cap n:Nat):Value:=
 match l with
 |none=> .slice none 0 0
 |some b=> .slice (some ⟨b,0,none⟩) n cap
def qv(w:World)(aT:TypeId)(sz:Nat)(l:Option Nat)(cap n:Nat)(cells:List Value):Prop:=
 match l with
 |none=>n=0/\cells=[]
 |some b=> ∃cur,w.heap[b]? =some (.cells cur aT (0,0))/\n<=cap/\cap<=maxLen/\cur.size=cap*sz/\cur.toList.take (n*sz)=cells
def tu{α:Type}(m:Bool)(r:Rp α)(aT:TypeId)(l:Option Nat)(cap:Nat)(xs:List α)(w:World)(S:SH):Prop:=
 ∃cells,qv w aT r.sz l cap xs.length cells/\mD r S cells xs/\ ∀b,l=some b->S b=if m then some (.cells cells.toArray aT (0,0))else none
def qv.lt{sz b n:Nat}(h:qv w aT sz (some b) cap n cells):b<w.heap.size:=by
 obtain⟨cur,Y,_⟩:=h
 exact(qz.1 Y).1
def qv.ext{sz n:Nat}(h:qv w aT sz l cap n cells)(k: ∀b,l=some b->w'.heap[b]? =w.heap[b]?):qv w' aT sz l cap n cells:=by
 cases l with
 |none=>exact h
 |some b=>
  obtain⟨cur,Y,H⟩:=h
  exact⟨cur,by rw [k b rfl];exact Y,H⟩
def gI{α:Type}(m:Bool)(r:Rp α)(aT:TypeId)(l:Option Nat)(cap:Nat)(xs:List α):OE where
 fp:=fun k=>l=some k
 p:=tu m r aT l cap xs
 here:=by
  intro w S h k hk
  subst hk
  obtain⟨cells,Y,_⟩:=h
  exact Y.lt
 kept:=by
  intro C w w' S S' h k hC
  obtain⟨cells,Y,H,h3⟩:=h
  refine⟨cells,Y.ext fun b V=>?_,mV k.keep H,fun b V=>?_⟩
  ·subst V;exact k.heap b Y.lt (hC b rfl)
  ·subst V;rw [k.old b Y.lt (hC b rfl)];exact h3 b rfl
abbrev dX{α:Type}(r:Rp α)(aT:TypeId)(l:Option Nat)(cap:Nat)(xs:List α):OE:=gI false r aT l cap xs
abbrev tip{α:Type}(r:Rp α)(aT:TypeId)(l:Option Nat)(cap:Nat)(xs:List α):OE:=gI true r aT l cap xs
def kF{α:Type}(xs ys:List α):Option (List α):=if xs.length+ys.length<=68719476736 then some (xs++ys)else none
variable{zs:List α}
def Dl(h:kF xs ys=some zs):zs=xs++ys/\xs.length+ys.length<=68719476736:=by
 unfold kF at h
 split at h
 ·exact⟨by simpa using h.symm,by assumption⟩
 ·cases h
variable{news:List Value}
def qi{P:Program}{t tx ty:TypeId}{i:TypeInfo}(D:P.underlying t=some (.slice e))(hi:P.info? e=some i){g sLen sCap:Nat}{cur:Array Value}(Z:w.heap[g]? =some (.cells cur e (0,0))){x:Value}{n:Nat}(hs:Src P i.size tx x n news w)(hroom:sLen+n<=sCap)(hfit:sLen*i.size+news.length<=cur.size):
  (Builtin.append_ #[t,tx] ty #[.slice (some ⟨g,0,none⟩) sLen sCap,x]).run P w=
   .ok (.slice (some ⟨g,0,none⟩) (sLen+n) sCap) (w.setRow g (cur.toList.take (sLen*i.size)++news++cur.toList.drop (sLen*i.size+news.length)).toArray):=by
 have hst:=run_storeCells_at P g (sLen*i.size) e news 0 cur w Z (by simpa using hfit) hs.one
 simp only [Nat.add_zero]at hst
 rcases hs.kind with⟨e',hk⟩|hk<;>simp [Builtin.append_,gy D,gy hk,sizeOf,typeInfo,hi,hs.len,hroom,hs.cells,Addr.add_lit,hst]
structure Fo(l:Option Nat)(w w' :World):Prop where
 os:w'.os=w.os
 tape:w'.tape=w.tape
 output:w'.output=w.output
 drawn:w.drawn<=w'.drawn
 size:w.heap.size<=w'.heap.size
 heap: ∀k,k<w.heap.size->l≠some k->w'.heap[k]? =w.heap[k]?
variable{t' :TypeId}
def ur{P:Program}{t ty:TypeId}{sz:Nat}{agg:Bool}{n m:Nat}{x:Value}(ti:TI P aT sz bytes agg z)(hz:Nat.beq z.length sz=true)(h0:Nat.blt 0 sz=true)(h128:Nat.ble bytes 2048=true)(D:P.underlying t=some (.slice aT))(h:qv w aT sz l cap n cells)(hs:Src P sz t' x m news w)(hlen:n+m<=68719476736):
  ∃l' cap' w',(Builtin.append_ #[t,t'] ty #[aM l cap n,x]).run P w= .ok (aM l' cap' (n+m)) w' /\qv w' aT sz l' cap' (n+m) (cells++news)/\Fo l w w' /\(∀b,l' =some b->l=some b\/w.heap.size<=b)/\(∀b,l=some b->l' ≠some b->w'.heap[b]? =w.heap[b]?):=by
 obtain⟨i,zv,hi,Y,H,h3,h4⟩:=ti.get
 have h128' :=lL h128
 have h0' :0<sz:=by simpa [pc] using h0
 have hz2:z.length=sz:=kB hz
 subst Y
 have hnl:=hs.newsLen
 have hbytes:(n+m)*i.bytes<=140737488355328:=ve (Nat.mul_le_mul hlen (by omega:i.bytes<=2048)) (by omega)
 by_cases hm:m=0
 ·subst hm
  have hn0:news=[]:=ra (by simpa using hnl)
  subst hn0
  refine⟨l,cap,w,?_,by simpa using h,⟨rfl,rfl,rfl,iZ _,iZ _,fun _ _ _=>rfl⟩,fun b V=> .inl V,fun b _ _=>rfl⟩
  cases l with
  |none=>
   obtain⟨rfl,_⟩:=h
   exact run_append_nothing w t t' ty aT i D hi none 0 0 (iZ _) _ hs
  |some b=>
   obtain⟨cur,_,hle,_⟩:=h
   exact run_append_nothing w t t' ty aT i D hi (some ⟨b,0,none⟩) n cap hle _ hs
 have FU: ∀old,old<n+m->Builtin.nextslicecap (n+m) old*i.bytes<=281474976710656:=fun old ho=>growslice_fits ho hbytes
 -- a new row
 have fresh: ∀(base:Option Addr) (olds:List Value),aM l cap n= .slice base n cap->olds=cells->cap<n+m->(Builtin.firstCells i.size n (.slice base n cap)).run P w.drew= .ok olds.toArray w.drew->cells.length=n*i.size->
   ∃l' cap' w',(Builtin.append_ #[t,t'] ty #[aM l cap n,x]).run P w= .ok (aM l' cap' (n+m)) w' /\qv w' aT i.size l' cap' (n+m) (cells++news)/\Fo l w w' /\(∀b,l' =some b->l=some b\/w.heap.size<=b)/\(∀b,l=some b->l' ≠some b->w'.heap[b]? =w.heap[b]?):=by
  intro base olds hv he Z M hcl
  subst he
  have hr:=run_append_grow_src (P:=P) w t t' ty aT i zv D hi h3 base n cap olds M x m news hs Z (by omega) (FU cap Z)
  have hge:=grownCap_ge w (n+m) cap aT
  rw [<-hv]at hr
  refine⟨some w.heap.size,grownCap w (n+m) cap aT,_,hr,⟨_,wv w.drew _,hge,grownCap_le_maxLen _ _ _ _ (by simp only [maxLen];omega),?_,?_⟩,⟨rfl,rfl,rfl,Nat.le_succ _,by simp,fun k hk _=>?_⟩,fun b V=> .inr (tP (my V)),fun b V _=>?_⟩
  ·have:(Builtin.zeroCells zv.cells (grownCap w (n+m) cap aT-(n+m))).size=(grownCap w (n+m) cap aT-(n+m))*i.size:=by
    rw [size_zeroCells,h4];simp [hz2]
   simp only [Array.size_append,AX,hT,hcl,hnl,this]
   rw [<-pn,<-pn]
   congr 1;omega
  ·have hl2:(olds++news).length=(n+m)*i.size:=by rw [hT,hcl,hnl,pn]
   rw [Array.toList_append,qA (by simp only [List.toList_toArray];omega)]
   simp only [List.toList_toArray]
   exact kC (by omega)
  ·exact iE (w:=w.drew) hk
  ·cases l with
   |none=>cases V
   |some b0=>
    have hb' :b0=b:=my V
    subst hb'
    exact iE (w:=w.drew) (qv.lt h)
 cases l with
 |none=>
  obtain⟨rfl,rfl⟩:=h
  have:=run_append_grow_src (P:=P) w t t' ty aT i zv D hi h3 none 0 0 [] (run_firstCells_none w.drew i.size 0 0 0) x m news hs (by omega) (by omega) (FU 0 (by omega))
  have hge:=grownCap_ge w (0+m) 0 aT
  refine⟨some w.heap.size,grownCap w (0+m) 0 aT,_,this,⟨_,wv w.drew _,hge,grownCap_le_maxLen _ _ _ _ (by simp only [maxLen];omega),?_,?_⟩,⟨rfl,rfl,rfl,Nat.le_succ _,by simp,fun k hk _=>?_⟩,fun b V=> .inr (tP (my V)),fun b V=>(by cases V)⟩
  ·have:(Builtin.zeroCells zv.cells (grownCap w (0+m) 0 aT-(0+m))).size=(grownCap w (0+m) 0 aT-(0+m))*i.size:=by
    rw [size_zeroCells,h4];simp [hz2]
   simp only [Array.size_append,AX,nQ,hnl,this]
   rw [<-pn]
   congr 1;omega
  ·rw [Array.toList_append,qA (by simp [hnl])]
   simp only [nQ,oa]
   exact kC (by omega)
  ·exact iE (w:=w.drew) hk
 |some b=>
  obtain⟨cur,V,hle,hmax,hcs,hct⟩:=h
  have hcl:cells.length=n*i.size:=by
   rw [<-hct,ww,xG,hcs]
   exact qx (q9 _ hle)
  by_cases hroom:n+m<=cap
  ·have hfit:n*i.size+news.length<=cur.size:=by rw [hnl,hcs,<-pn];exact q9 _ hroom
   have hr:=qi (t:=t) (tx:=t') (ty:=ty) D hi V hs hroom hfit
   refine⟨some b,cap,_,hr,⟨_,setRow_heap w b cur _ aT _ V,hroom,hmax,?_,?_⟩,⟨rfl,rfl,rfl,iZ _,by simp [World.setRow],fun k hk hkb=>setRow_other w b k _ (fun e=>hkb (by rw [e]))⟩,fun b' hb' => .inl hb',fun b' hb' hne=>absurd hb' hne⟩
   ·simp only [AX,hT,ww,xF,xG]
    omega
   ·rw [hct,pn,<-hnl,<-hcl,show cells.length+news.length=(cells++news).length from by simp]
    exact List.take_left
  ·refine fresh (some ⟨b,0,none⟩) cells rfl rfl (by omega) (run_firstCells_some w.drew i.size n ⟨b,0,none⟩ n cap cells hcl fun j v hv=>?_) hcl
   have hj:j<cells.length:=(mH.1 hv).1
   have hcell:w.cell? ⟨b,j,none⟩=cur[j]? :=rK V j
   rw [fe]
   show w.cell? ⟨b,0+j,none⟩=_
   rw [oa,hcell]
   rw [<-hct,tN (by omega)]at hv
   simpa using hv
def px{P:Program}{r:Rp α}{e' :TypeId}(D:P.underlying t' =some (.slice e'))(hs:gc w S)(hv:(X (eY r) ys).p S v): ∃news,Src P r.sz t' v ys.length news w/\mD r S news ys:=by
 obtain⟨ad,c2,rfl,hcap,hmax,hsl⟩:=iS.1 hv
 rcases hsl with rfl|⟨b,off,c,U,fr,e1,e2,e3⟩
 ·refine⟨[],?_,rfl⟩
  cases ad with
  |none=>exact .ofNil w D c2
  |some a=>exact .ofSlice w D a 0 c2 [] (by simp) (fun j u hu=>by simp at hu) (fun u hu=>by cases hu)
 ·subst e1
  obtain⟨c',h4,h5⟩:=hs.part e2 (ju e3)
  refine⟨_,.ofSlice w D ⟨b,off,none⟩ ys.length c2 _ (ju e3) (fun j u hu=>?_) (tz e3),e3⟩
  rw [fe,rK h4]
  rw [<-h5]at hu
  have hj:j<ys.length*r.sz:=by
   have:=(mH.1 hu).1
   simp at this;omega
  rw [tN hj,qg]at hu
  simpa using hu
variable{mm:Bool}
def pC{P:Program}{r:Rp α}{t ty:TypeId}{sz:Nat}{agg:Bool}{base:Nat}{B:Nat->Prop}(ti:TI P aT sz bytes agg z)(hsz:r.sz=sz)(hz:Nat.beq z.length sz=true)(h0:Nat.blt 0 sz=true)(h128:Nat.ble bytes 2048=true)(D:P.underlying t=some (.slice aT))(hs:gc w S)(h:(gI mm r aT l cap xs).holds base B w S)(V:base<=w.heap.size)(hsrc:Src P r.sz t' v ys.length news w)(hrc:mD r S news ys)(hz' :kF xs ys=some zs):
  ∃l' cap' w' S',(Builtin.append_ #[t,t'] ty #[aM l cap xs.length,v]).run P w= .ok (aM l' cap' zs.length) w' /\ez (fun k=>l=some k) w S w' S' /\gc w' S' /\(gI mm r aT l' cap' zs).holds base B w' S' /\(∀b,l' =some b->l=some b\/w.heap.size<=b):=by
 subst hsz
 obtain⟨rfl,hlen⟩:=Dl hz'
 obtain⟨⟨cells,Y,H,h3⟩,hbase⟩:=h
 obtain⟨l',cap',w',hr,hraw,Z,hnew,hold⟩:=ur (ty:=ty) ti hz h0 h128 D Y hsrc hlen
 have hrc' :mD r S (cells++news) (xs++ys):=oK H hrc
 -- what stood settled stands
 have hsat0: ∀k o,S k=some o-> ∃o',w'.heap[k]? =some o' /\yl o o' :=fun k o hk=>by
  have hlt:=hs.lt hk
  by_cases hkl:l=some k
  ·obtain⟨o',e1,e2⟩:=hs k o hk
   by_cases hkl' :l' =some k
   ·subst hkl'
    subst hkl
    have h3' :=h3 k rfl
    cases mm with
    |false=>rw [h3']at hk;cases hk
    |true=>
     rw [h3']at hk
     cases hk
     obtain⟨cur',g1,g2,g3,g4,g5⟩:=hraw
     refine⟨_,g1,?_⟩;refine⟨news++cur'.toList.drop ((xs.length+ys.length)*r.sz),?_⟩
     congr 1
     apply Array.ext'
     rw [<-jI,<-g5,pe]
   ·rw [hold k hkl hkl'];exact hs k o hk
  ·rw [Z.heap k hlt hkl];exact hs k o hk
 have hsat:gc w' S:=⟨hsat0,hs.gl,hs.tb⟩
 have hSn: ∀b,l' =some b->l≠some b->S b=none:=fun b hb' hne=>by
  cases hq:S b with
  |none=>rfl
  |some q=>
   have:=hs.lt hq
   rcases hnew b hb' with h|h
   ·exact absurd h hne
   ·omega
 have hbase' : ∀k,l' =some k->base<=k\/B k:=fun k hk=>by
  rcases hnew k hk with h|h
  ·exact hbase k h
  ·exact .inl (by omega)
 have hz2:(xs++ys).length=xs.length+ys.length:=hT
 cases mm with
 |false=>
  refine⟨l',cap',w',S,by rw [hz2];exact hr,⟨Z.os,Z.tape,Z.output,Z.drawn,Z.size,fun k hk hkb=>Z.heap k hk hkb,SH.le_refl _,fun _ _ _=>rfl⟩,hsat,⟨⟨cells++news,by rw [hz2];exact hraw,hrc',fun b hb' =>?_⟩,hbase'⟩,hnew⟩
  by_cases hlb:l=some b
  ·exact h3 b hlb
  ·exact hSn b hb' hlb
 |true=>
  cases l' with
  |none=>
   refine⟨none,cap',w',S,by rw [hz2];exact hr,⟨Z.os,Z.tape,Z.output,Z.drawn,Z.size,fun k hk hkb=>Z.heap k hk hkb,SH.le_refl _,fun _ _ _=>rfl⟩,hsat,⟨⟨cells++news,by rw [hz2];exact hraw,hrc',fun b hb' =>(by cases hb')⟩,hbase'⟩,hnew⟩
  |some g=>
   have hq3: ∀q,S g=some q->yl q (.cells (cells++news).toArray aT (0,0)):=fun q hq=>by
    by_cases hlb:l=some g
    ·have h4:S g=some (.cells cells.toArray aT (0,0)):=h3 g hlb
     rw [h4]at hq
     cases hq
     exact⟨news,by simp⟩
    ·rw [hSn g rfl hlb]at hq;cases hq
   have hle:kT S (S.set g (.cells (cells++news).toArray aT (0,0))):=sG hq3
   obtain⟨cur',g1,g2,g3,g4,g5⟩:=hraw
   refine⟨some g,cap',w',S.set g (.cells (cells++news).toArray aT (0,0)),by rw [hz2];exact hr,⟨Z.os,Z.tape,Z.output,Z.drawn,Z.size,fun k hk hkb=>Z.heap k hk hkb,hle,fun k hk hkb=>lB _ _ ?_⟩,hsat.set g1 ?_ hq3,⟨⟨cells++news,by rw [hz2];exact⟨cur',g1,g2,g3,g4,g5⟩,mV hle hrc',fun b hb' =>?_⟩,hbase'⟩,hnew⟩
   ·rintro rfl
    rcases hnew k rfl with h|h
    ·exact hkb h
    ·omega
   ·refine⟨cur'.toList.drop ((xs.length+ys.length)*r.sz),?_⟩
    congr 1
    apply Array.ext'
    rw [<-g5,pe]
   ·have hb2:g=b:=my hb'
    subst hb2
    exact ku _ _ _

def Ad{e f:OE}(h:e.apart f):f.apart e:=fun b V he=>h b he V
def cF.swap{base:Nat}{B:Nat->Prop}{e f:OE}(h:cF base B w S (e::f::O)):cF base B w S (f::e::O):=by
 obtain⟨Y,H,h3,h4,h5⟩:=h
 refine⟨h3,?_,Y,?_,h5⟩
 ·intro g Z
  rcases eV.1 Z with rfl|Z
  ·exact Ad (H _ (k5 ..))
  ·exact h4 g Z
 ·intro g Z
  exact H g (nf _ Z)
def ot{base:Nat}{B:Nat->Prop}{e:OE}{O' :List OE}(h:cF base B w S (e::O))(k:cF base B w S O->cF base B w S O')(hm: ∀f∈O',f∈O):cF base B w S (e::O'):=
 ⟨h.1,fun f M=>h.2.1 f (hm f M),k h.2.2⟩
def nd{base:Nat}{B:Nat->Prop}{a b c:OE}(h:cF base B w S (a::b::c::O)):cF base B w S (c::a::b::O):=
 (ot h cF.swap (fun f M=>by simp only [eV]at M ⊢;rcases M with h|h|h<;>simp [h])).swap
def nc{base:Nat}{B:Nat->Prop}{a b c d:OE}(h:cF base B w S (a::b::c::d::O)):cF base B w S (d::a::b::c::O):=
 (ot h nd (fun f M=>by simp only [eV]at M ⊢;rcases M with h|h|h|h<;>simp [h])).swap
def nb{base:Nat}{B:Nat->Prop}{a b c d e:OE}(h:cF base B w S (a::b::c::d::e::O)):cF base B w S (e::a::b::c::d::O):=
 (ot h nc (fun f M=>by simp only [eV]at M ⊢;rcases M with h|h|h|h|h<;>simp [h])).swap

section
variable{E:En}
def St.own_map{O' :List OE}(h:St E O G a w S)(k:cF E.base E.B w S O->cF E.base E.B w S O'):St E O' G a w S:=⟨h.ext,h.sat,k h.own,h.facts⟩
def St.base_le(h:St E O G a w S):E.base<=w.heap.size:=h.ext.size
def St.drop{e:OE}(h:St E (e::O) G a w S):St E O G a w S:=h.own_map fun h=>h.2.2
def St.fresh(mm:Bool)(r:Rp α)(aT:TypeId)(h:St E O G a w S):St E (gI mm r aT none 0 []::O) G a w S:=
 h.own_map fun h=>by refine⟨⟨⟨[],⟨rfl,rfl⟩,rfl,fun b V=>(by cases V)⟩,fun k hk=>?_⟩,fun f _ b V=>?_,h⟩<;>(first|cases hk|cases V)
def oF{e:OE}{b:Nat}{o:Obj}(h:St E (e::O) G a w S)(V:e.fp b)(ho:w.heap[b]? =some o')(hoo:yl o o')(hn:S b=none):St E O G a w (S.set b o)/\kT S (S.set b o)/\ez (fun k=>k=b) w S w (S.set b o)/\gc w (S.set b o):=by
 have hbase:=h.own.1.2 b V
 have hle:kT S (S.set b o):=sG fun q hq=>(by rw [hn]at hq;cases hq)
 have hsat:gc w (S.set b o):=h.sat.set ho hoo fun q hq=>by rw [hn]at hq;cases hq
 have hext:ez (fun k=>k=b) w S w (S.set b o):=⟨rfl,rfl,rfl,iZ _,iZ _,fun _ _ _=>rfl,hle,fun k _ hk=>lB _ _ hk⟩
 refine⟨⟨h.ext.step hext fun c hc=>by subst hc;exact hbase,hsat,h.own.2.2.ext hext fun f M c hc hm=>?_,h.facts.mono hle⟩,hle,hext,hsat⟩
 subst hm
 exact h.own.2.1 f M c V hc
def tO{α:Type}(r:Rp α)(l:Option Nat)(cap:Nat)(xs:List α):Ty where
 p:=fun S v=>v=aM l cap xs.length/\(X (eY r) xs).p S v
 mono:=fun h ⟨Y,H⟩=>⟨Y,Ty.mono _ h H⟩
def oz{N:Fr}{G:gJ}{r:Rp α}(h:aD N G x (tO r l cap xs)):aD N G x (tV (aM l cap xs.length)):=fun S a M=>(h S a M).1
def i7{N:Fr}{G:gJ}{r:Rp α}(h:aD N G x (tO r l cap xs)):aD N G x (X (eY r) xs):=fun S a M=>(h S a M).2
def jV{r:Rp α}{w:World}{S:SH}(h:tu true r aT l cap xs w S):(X (eY r) xs).p S (aM l cap xs.length):=by
 obtain⟨cells,Y,H,h3⟩:=h
 cases l with
 |none=>
  have I:xs=[]:=ra Y.1
  subst I
  exact Ao
 |some b=>
  obtain⟨cur,g1,g2,g3,g4,g5⟩:=Y
  refine iS.2 ⟨_,cap,rfl,g2,g3,.inr ⟨b,0,cells.toArray,aT,(0,0),rfl,h3 b rfl,?_⟩⟩
  have:=ju H
  rw [q6,kC (by simp [this])]
  exact H
def St.freeze{r:Rp α}(h:St E (dX r aT l cap xs::O) G a w S):
  ∃S',St E (tip r aT l cap xs::O) G a w S' :=by
 obtain⟨⟨cells,Y,H,h3⟩,hbase⟩:=h.own.1
 cases l with
 |none=>exact⟨S,h.ext,h.sat,⟨⟨⟨cells,Y,H,fun b V=>(by cases V)⟩,hbase⟩,h.own.2⟩,h.facts⟩
 |some b=>
  obtain⟨cur,g1,g2,g3,g4,g5⟩:=Y
  have hoo:yl (.cells cells.toArray aT (0,0)) (.cells cur aT (0,0)):=by
   refine⟨cur.toList.drop (xs.length*r.sz),?_⟩
   congr 1
   apply Array.ext'
   rw [<-g5,pe]
  obtain⟨h8,hle,_,_⟩:=oF h rfl g1 hoo (h3 b rfl)
  refine⟨_,h8.ext,h8.sat,⟨⟨⟨cells,⟨cur,g1,g2,g3,g4,g5⟩,mV hle H,fun b' hb' =>?_⟩,hbase⟩,h.own.2.1,h8.own⟩,h8.facts⟩
  have hb2:b=b' :=my hb'
  subst hb2
  exact ku _ _ _
def St.settle{r:Rp α}(h:St E (gI mm r aT l cap xs::O) G a w S):
  ∃S',St E O G a w S' /\(X (eY r) xs).p S' (aM l cap xs.length):=by
 cases mm with
 |true=>exact⟨S,h.drop,jV h.own.1.1⟩
 |false=>
  obtain⟨S',Y⟩:=h.freeze
  exact⟨S',Y.drop,jV Y.own.1.1⟩
end

section
variable{E:En}{e:Exit}
def zM{N:Fr}(h:db N S a G)(hk:t.p S (a.tmps.getD k undef)):db N S a ((k,t)::G):=
 ⟨h.size,h.defers,fun j u hj=>by
  unfold bu at hj
  by_cases V:Nat.beq k j=true
  ·rw [V]at hj
   have:=kB V
   subst this
   rw [<-show t=u from by simpa using hj];exact hk
  ·rw [q8]at V
   rw [V]at hj
   exact h.at_ j u hj⟩
def St.cons(h:St E O G a w S)(hk:t.p S (a.tmps.getD k undef)):St E O ((k,t)::G) a w S:=⟨h.ext,h.sat,h.own,zM h.facts hk⟩
def St.tipAt{r:Rp α}{n:Nat}(h:St E (tip r aT l cap xs::O) G a w S)(hk:bu G k=some (tV (aM l cap n)))(hn:n=xs.length):
  St E (tip r aT l cap xs::O) ((k,tO r l cap xs)::G) a w S:=by
 subst hn
 have hv:a.tmps.getD k undef=aM l cap xs.length:=h.facts.at_ k _ hk
 exact h.cons ⟨hv,by rw [hv];exact jV h.own.1.1⟩
def bE(mm:Bool)(r:Rp α)(aT:TypeId)(h:RG E ops Q rest (gI mm r aT none 0 []::O) G):RG E ops Q rest O G:=fun a w S st=>h a w S (st.fresh mm r aT)
def Dw(mm:Bool)(r:Rp α)(aT:TypeId)(h:CG E Q c (gI mm r aT none 0 []::O) G):CG E Q c O G:=fun a w S st=>h a w S (st.fresh mm r aT)
def o3{f:OE}(h:RG E ops Q rest O G):RG E ops Q rest (f::O) G:=fun a w S st=>h a w S st.drop
def CG.drop{f:OE}(h:CG E Q c O G):CG E Q c (f::O) G:=fun a w S st=>h a w S st.drop
def aH{f:OE}(h:AT E Q e O G):AT E Q e (f::O) G:=fun a w S st=>h a w S st.drop
def aU{x y:OE}(h:RG E ops Q rest (y::x::O) G):RG E ops Q rest (x::y::O) G:=fun a w S st=>h a w S (st.own_map cF.swap)
def bm{x y:OE}(h:AT E Q e (y::x::O) G):AT E Q e (x::y::O) G:=fun a w S st=>h a w S (st.own_map cF.swap)
def cn{x y z:OE}(h:RG E ops Q rest (z::x::y::O) G):RG E ops Q rest (x::y::z::O) G:=fun a w S st=>h a w S (st.own_map nd)
def aA{x y z:OE}(h:AT E Q e (z::x::y::O) G):AT E Q e (x::y::z::O) G:=fun a w S st=>h a w S (st.own_map nd)
def cT{x y z:OE}(h:RG E ops Q rest (u::x::y::z::O) G):RG E ops Q rest (x::y::z::u::O) G:=fun a w S st=>h a w S (st.own_map nc)
def bq{x y z:OE}(h:AT E Q e (u::x::y::z::O) G):AT E Q e (x::y::z::u::O) G:=fun a w S st=>h a w S (st.own_map nc)
def kw{x y z v:OE}(h:RG E ops Q rest (v::x::y::z::u::O) G):RG E ops Q rest (x::y::z::u::v::O) G:=fun a w S st=>h a w S (st.own_map nb)
def ci{x y z v:OE}(h:AT E Q e (v::x::y::z::u::O) G):AT E Q e (x::y::z::u::v::O) G:=fun a w S st=>h a w S (st.own_map nb)
def jD{f:OE}(h:LG E Q c O G):LG E Q c (f::O) G:=fun a w S st=>h a w S st.drop
def cr{x y:OE}(h:LG E Q c (y::x::O) G):LG E Q c (x::y::O) G:=fun a w S st=>h a w S (st.own_map cF.swap)
def dp{x y z:OE}(h:LG E Q c (z::x::y::O) G):LG E Q c (x::y::z::O) G:=fun a w S st=>h a w S (st.own_map nd)
def fO{x y z:OE}(h:LG E Q c (u::x::y::z::O) G):LG E Q c (x::y::z::u::O) G:=fun a w S st=>h a w S (st.own_map nc)
def lC{x y z v:OE}(h:LG E Q c (v::x::y::z::u::O) G):LG E Q c (x::y::z::u::v::O) G:=fun a w S st=>h a w S (st.own_map nb)
def fi{r:Rp α}(h:RG E ops Q rest (tip r aT l cap xs::O) G):RG E ops Q rest (dX r aT l cap xs::O) G:=fun a w _ st=>let⟨S',st'⟩:=st.freeze;h a w S' st'
def jp{r:Rp α}{n:Nat}(k:Nat)(hk:bu G k=some (tV (aM l cap n)))(h:RG E ops Q rest (tip r aT l cap xs::O) ((k,tO r l cap xs)::G))(hn:n=xs.length:=by rfl):RG E ops Q rest (tip r aT l cap xs::O) G:=fun a w S st=>h a w S (st.tipAt hk hn)
def Du{r:Rp α}{n:Nat}(k:Nat)(hk:bu G k=some (tV (aM l cap n)))(h:CG E Q c (tip r aT l cap xs::O) ((k,tO r l cap xs)::G))(hn:n=xs.length:=by rfl):CG E Q c (tip r aT l cap xs::O) G:=fun a w S st=>h a w S (st.tipAt hk hn)
def kx{r:Rp α}(h:AT E Q e (tip r aT l cap xs::O) G):AT E Q e (dX r aT l cap xs::O) G:=fun a w _ st=>let⟨S',st'⟩:=st.freeze;h a w S' st'
def dz{r:Rp α}{n:Nat}(k:Nat)(hk:bu G k=some (tV (aM l cap n)))(h:AT E Q e (tip r aT l cap xs::O) ((k,tO r l cap xs)::G))(hn:n=xs.length:=by rfl):AT E Q e (tip r aT l cap xs::O) G:=fun a w S st=>h a w S (st.tipAt hk hn)
def BO{r:Rp α}(h:LG E Q c (tip r aT l cap xs::O) G):LG E Q c (dX r aT l cap xs::O) G:=fun a w _ st=>let⟨S',st'⟩:=st.freeze;h a w S' st'
def Ds{r:Rp α}{n:Nat}(k:Nat)(hk:bu G k=some (tV (aM l cap n)))(h:LG E Q c (tip r aT l cap xs::O) ((k,tO r l cap xs)::G))(hn:n=xs.length:=by rfl):LG E Q c (tip r aT l cap xs::O) G:=fun a w S st=>h a w S (st.tipAt hk hn)
def br{r:Rp α}(hk:bu G k=some (X (eY r) xs))(h:xs.length<=maxLen->CG E Q c O G):CG E Q c O G:=fun a w S st=>by
 obtain⟨_,_,_,Y,H,_⟩:=iS.1 (st.facts.at_ k _ hk)
 exact h (ve Y H) a w S st

section
variable{ty:TypeId}
def St.append{r:Rp α}{t ty:TypeId}{sz:Nat}{agg:Bool}(ti:TI E.P aT sz bytes agg z)(hsz:r.sz=sz)(hz:Nat.beq z.length sz=true)(h0:Nat.blt 0 sz=true)(h128:Nat.ble bytes 2048=true)(D:E.P.underlying t=some (.slice aT))(st:St E (gI mm r aT l cap xs::O) G a w S)(hsrc:Src E.P r.sz t' v ys.length news w)(hrc:mD r S news ys)(happ:kF xs ys=some zs):
  ∃l' cap' w' S',(Builtin.append_ #[t,t'] ty #[aM l cap xs.length,v]).run E.P w= .ok (aM l' cap' zs.length) w' /\St E (gI mm r aT l' cap' zs::O) G a w' S' :=by
 obtain⟨l',cap',w',S',hr,hext,hsat,hh,hnew⟩:=pC (ty:=ty) ti hsz hz h0 h128 D st.sat st.own.1 st.base_le hsrc hrc happ
 refine⟨l',cap',w',S',hr,st.ext.step hext fun b V=>st.own.1.2 b V,hsat,⟨hh,fun f M b V hfb=>?_,st.own.2.2.ext hext fun f M b V hbl=>st.own.2.1 f M b hbl V⟩,st.facts.mono hext.keep⟩
 rcases hnew b V with h|h
 ·exact st.own.2.1 f M b h hfb
 ·have:=f.here (cF.mem st.own.2.2 f M).1 b hfb
  omega
def St.put{d:Nat}(h:St E O G a w S)(hd:Nat.blt d E.N.n=true)(hv:t.p S v):St E O ((d,t)::G) (a.put (some d) v) w S:=⟨h.ext,h.sat,h.own,h.facts.put hd hv⟩
def qY{r:Rp α}{t:TypeId}{sz:Nat}{agg:Bool}{n:Nat}{u:Nat->Option Nat->Ty}(ti:TI E.P aT sz bytes agg z)(hsz:r.sz=sz)(hz:Nat.beq z.length sz=true)(h0:Nat.blt 0 sz=true)(h128:Nat.ble bytes 2048=true)(D:E.P.underlying t=some (.slice aT))(hd:Nat.blt d E.N.n=true)(I:aD E.N G x (tV (aM l cap n)))(hy: ∀a w S,St E (gI mm r aT l cap xs::O) G a w S-> ∃news,Src E.P r.sz t' (a.eval y) ys.length news w/\mD r S news ys)(happ:kF xs ys=some zs)(hu: ∀l' cap' w0 S,(gI mm r aT l' cap' zs).p w0 S->(u cap' l').p S (aM l' cap' zs.length))(k: ∀l' cap',RG E ops Q rest (gI mm r aT l' cap' zs::O) ((d,u cap' l')::G))(hn:n=xs.length):
  RG E ops Q (⟨some d,.call ⟨.builtin .append,#[x,y],#[t,t']⟩,ty,pos,after,none⟩::rest) (gI mm r aT l cap xs::O) G:= .of rfl fun a w S st=>by
 subst hn
 have Y:a.eval x=aM l cap xs.length:=I S a st.facts
 obtain⟨news,H,h3⟩:=hy a w S st
 obtain⟨l',cap',w',S',hr,st'⟩:=st.append (ty:=ty) ti hsz hz h0 h128 D H h3 happ
 have hrun:(execOp a.eval ⟨some d,.call ⟨.builtin .append,#[x,y],#[t,t']⟩,ty,pos,after,none⟩).run E.P w= .ok (.value (aM l' cap' zs.length)) w' :=by
  simp [execOp,resolve,invoke,builtin,Y,hr]
 refine⟨fun c h=>(by cases h),?_⟩
 rw [hrun]
 exact k l' cap' _ _ S' (st'.put hd (hu l' cap' w' S' st'.own.1.1))
def dd{r:Rp α}{t:TypeId}{sz:Nat}{agg:Bool}{n:Nat}(ti:TI E.P aT sz bytes agg z)(hsz:r.sz=sz)(hz:Nat.beq z.length sz=true)(h0:Nat.blt 0 sz=true)(h128:Nat.ble bytes 2048=true)(D:E.P.underlying t=some (.slice aT))(ht' :t' =t)(hd:Nat.blt d E.N.n=true)(I:aD E.N G x (tV (aM l cap n)))(hy:aD E.N G y (X (eY r) ys))(happ:kF xs ys=some zs)(k: ∀l' cap',RG E ops Q rest (dX r aT l' cap' zs::O) ((d,tV (aM l' cap' zs.length))::G))(hn:n=xs.length:=by rfl):
  RG E ops Q (⟨some d,.call ⟨.builtin .append,#[x,y],#[t,t']⟩,ty,pos,after,none⟩::rest) (dX r aT l cap xs::O) G:=by
 subst ht'
 exact qY (u:=fun cap' l' =>tV (aM l' cap' zs.length)) ti hsz hz h0 h128 D hd I (fun a w S st=>px D st.sat (hy S a st.facts)) happ (fun _ _ _ _ _=>rfl) k hn
def dU{r:Rp α}{t:TypeId}{sz:Nat}{agg:Bool}(ti:TI E.P aT sz bytes agg z)(hsz:r.sz=sz)(hz:Nat.beq z.length sz=true)(h0:Nat.blt 0 sz=true)(h128:Nat.ble bytes 2048=true)(D:E.P.underlying t=some (.slice aT))(ht' :t' =t)(hd:Nat.blt d E.N.n=true)(I:aD E.N G x (tO r l cap xs))(hy:aD E.N G y (X (eY r) ys))(happ:kF xs ys=some zs)(k: ∀l' cap',RG E ops Q rest (tip r aT l' cap' zs::O) ((d,tO r l' cap' zs)::G)):
  RG E ops Q (⟨some d,.call ⟨.builtin .append,#[x,y],#[t,t']⟩,ty,pos,after,none⟩::rest) (tip r aT l cap xs::O) G:=by
 subst ht'
 exact qY (u:=fun cap' l' =>tO r l' cap' zs) ti hsz hz h0 h128 D hd (oz I) (fun a w S st=>px D st.sat (hy S a st.facts)) happ (fun _ _ _ _ h=>⟨rfl,jV h⟩) k rfl
end
end

def rC(off:Nat): ∀(cs:List Value) (k:Nat) (pre mid post:List Value),mid.length=cs.length->pre.length=off+k->
  (cs.zipIdx k).foldl (fun(a:Array Value) x=>a.setIfInBounds (off+x.2) x.1) (pre++mid++post).toArray=(pre++cs++post).toArray
 |[],k,pre,mid,post,hm,_=>by
  have:mid=[]:=ra hm
  subst this;simp
 |c::cs,k,pre,mid,post,hm,hp=>by
  cases mid with
  |nil=>simp at hm
  |cons m mid=>
   simp only [List.zipIdx_cons,List.foldl_cons]
   have Y:(pre++(m::mid)++post).toArray.setIfInBounds (off+k) c=((pre++[c])++mid++post).toArray:=by
    rw [<-hp]
    simp
   rw [Y,rC off cs (k+1) (pre++[c]) mid post (by simpa using hm) (by simp;omega)]
   simp
def rh(v:Value)(off:Nat)(pre mid post:List Value)(hm:mid.length=v.cells.size)(hp:pre.length=off):
  v.cells.zipIdx.foldl (fun cs (x:Value×Nat)=>cs.setIfInBounds (off+x.2) x.1) (pre++mid++post).toArray=(pre++v.cells.toList++post).toArray:=by
 have:=rC off v.cells.toList 0 pre mid post (by simpa using hm) (by simpa using hp)
 rw [<-this,<-Array.foldl_toList]
 simp [Array.toList_zipIdx]
def od{r:Rp α}{x:α}(h:r.rc S cs x):(r.val cs).cells=cs.toArray:=by
 unfold Rp.val
 cases ha:r.agg with
 |true=>simp [Value.cells]
 |false=>
  have hl:=r.len h
  rw [r.sc ha]at hl
  match cs,hl with
  |[c],_=>
   have:=r.one h c (by simp)
   cases c<;>simp_all [Value.cells,Value.oneCell']
def s5:Nat->List Value->List (Nat×Value)
 |_,[]=>[]
 |k,v::vs=>(k,v)::s5 (k+1) vs
def uM{α:Type}{r:Rp α}{S:SH}: ∀(ys:List α) (vs:List Value) (k:Nat) (pre zs:List Value),pm S (ys.map (X r)) vs->pre.length=k*r.sz->zs.length=ys.length*r.sz->
  ∃cs,mD r S cs ys/\Instr.fill (fun i=>some (i*r.sz,r.sz)) (pre++zs).toArray (s5 k vs)=some (pre++cs).toArray
 |[],[],k,pre,zs,_,_,hz=>by
  have:zs=[]:=ra (by simpa using hz)
  subst this
  exact⟨[],rfl,by simp [s5,Instr.fill]⟩
 |y::ys,v::vs,k,pre,zs,⟨⟨c,e,hc⟩,H⟩,hp,hz=>by
  have hl:=r.len hc
  have hz' :r.sz<=zs.length:=by rw [hz,oc,pn];omega
  have e1:zs=zs.take r.sz++zs.drop r.sz:=(pe _ _).symm
  have hcells:v.cells=c.toArray:=by rw [e];exact od hc
  obtain⟨cs,h3,h4⟩:=uM ys vs (k+1) (pre++c) (zs.drop r.sz) H (by rw [hT,hp,hl,pn];omega) (by rw [xF,hz,oc,pn];omega)
  refine⟨c++cs,⟨c,cs,rfl,hc,h3⟩,?_⟩
  have hs:v.cells.size=r.sz:=by rw [hcells];simpa using hl
  have hcond: ¬((v.cells.size≠r.sz)\/(k*r.sz+v.cells.size>(pre++zs).toArray.size)):=by
   simp [hs];omega
  have h5:=rh v (k*r.sz) pre (zs.take r.sz) (zs.drop r.sz) (by simp [hs];omega) hp
  rw [jI,<-e1]at h5
  simp only [s5,Instr.fill]
  rw [ei (by simpa using hcond)]
  rw [h5,hcells]
  simpa using h4
def qu:Nat->List Operand->List (Nat×Operand)
 |_,[]=>[]
 |k,v::vs=>(k,v)::qu (k+1) vs
def sB(ρ:Operand->Value): ∀(k:Nat) (xs:List Operand),(qu k xs).map (fun x=>(x.1,ρ x.2))=s5 k (xs.map ρ)
 |_,[]=>rfl
 |k,x::xs=>by simp [qu,s5,sB ρ (k+1) xs]

variable{parts:List (Nat×Operand)}
section
variable{E:En}{ty:TypeId}
def pB{P:Program}{r:Rp α}{xs:List Operand}{ρ:Operand->Value}{t:TypeId}{n sz:Nat}{agg:Bool}(D:P.underlying t=some (.slice aT))(ti:TI P aT sz bytes agg z)(hsz:r.sz=sz)(hn:n=ys.length)(V:Nat.ble (n*sz) 16777216=true)(I:pm S (ys.map (X r)) (xs.map ρ))(w:World):
  ∃cs,mD r S cs ys/\(Instr.buildSlice t n ((qu 0 xs).toArray.map fun x=>(x.1,ρ x.2))).run P w= .ok (.slice (some ⟨w.heap.size,0,none⟩) n n) (w.alloc (.cells cs.toArray aT (0,0))):=by
 subst hsz
 have hb' :=lL V
 obtain⟨zv,hzr,_⟩:=ti.zero w
 obtain⟨cs,hc,hfill⟩:=uM ys (xs.map ρ) 0 [] ((Array.range (n*r.sz)).map (fun i=>(if n*r.sz=0 then #[]else zv.cells)[i%(if n*r.sz=0 then #[]else zv.cells).size]!)).toList I (by simp) (by simp [hn])
 refine⟨cs,hc,?_⟩
 have hparts:((qu 0 xs).toArray.map fun x=>(x.1,ρ x.2)).toList=s5 0 (xs.map ρ):=by simp [sB]
 simp only [nQ,Array.toArray_toList]at hfill
 have hle: ¬(n*r.sz>2^24):=by omega
 by_cases hn0:n*r.sz=0
 ·simp only [hn0,ni]at hfill
  simp only [Instr.buildSlice,ow,gy D,pp,ti.sizeOf,Sem.run_ite,hn0,ni,Sem.run_pure,hparts,hfill]
  simp [newRow]
 ·simp only [hn0,ov]at hfill
  simp only [Instr.buildSlice,ow,gy D,pp,ti.sizeOf,Sem.run_ite,hle,ov,hn0,Sem.run_pure,hzr,hparts,hfill]
  simp [newRow]
def aQ{r:Rp α}{xs:List Operand}{t:TypeId}{n sz:Nat}{agg:Bool}(D:E.P.underlying t=some (.slice aT))(ti:TI E.P aT sz bytes agg z)(hsz:r.sz=sz)(h0:Nat.blt 0 sz=true)(hp:parts=qu 0 xs)(hn:n=ys.length)(V:Nat.ble (n*sz) 16777216=true)(I:ew E.N G xs (ys.map (X r))):bJ E O G ⟨dst,.buildSlice t n parts.toArray,ty,pos,after,g⟩ (X (eY r) ys):=
 .of_run fun a w S hs _ M=>by
  obtain⟨cs,hc,hr⟩:=pB D ti hsz hn V (I.tys M) w
  subst hsz
  have hb' :=lL V
  have h0' :0<r.sz:=by simpa [pc] using h0
  have hnle:n<=n*r.sz:=Nat.le_mul_of_pos_right n h0'
  obtain⟨he,hs'⟩:=nP (w:=w) (.cells cs.toArray aT (0,0)) hs
  have hcl:=ju hc
  refine⟨.slice (some ⟨w.heap.size,0,none⟩) n n,_,_,?_,he,hs',iS.2 ⟨_,n,by rw [hn],by omega,by simp only [maxLen];omega,.inr ⟨w.heap.size,0,cs.toArray,aT,(0,0),rfl,by simp [SH.set],?_⟩⟩⟩
  ·subst hp
   simp only [execOp,ow,hr,pp,Sem.run_pure]
  ·have:mD r (S.set w.heap.size (.cells cs.toArray aT (0,0))) cs ys:=mV he.keep hc
   simpa [<-hcl] using this
def CB{r:Rp α}{v:α}(I:aD E.N G x (X r v)):bJ E O G ⟨dst,.box aT x,ty,pos,after,g⟩ (bp r v):=
 .of_run fun a w S hs _ M=>by
  obtain⟨cs,hv,hc⟩:=I S a M
  obtain⟨he,hs'⟩:=nP (w:=w) (.cells cs.toArray aT (0,0)) hs
  refine⟨.pointer (some ⟨w.heap.size,0,none⟩),_,_,?_,he,hs',w.heap.size,0,cs.toArray,aT,(0,0),rfl,by simp [SH.set],?_⟩
  ·simp [execOp,Instr.box,newVar,newRow,hv,od hc]
  ·have:=r.mono he.keep hc
   have hl:=r.len hc
   simpa [<-hl] using this
end

def iI(c:Bool)(t:Ty):Ty where
 p:=fun S v=>if c=true then t.p S v else v=undef
 mono:=fun h k=>by
  split
  ·rename_i hc;rw [eF hc]at k;exact t.mono h k
  ·rename_i hc;rw [ei hc]at k;exact k
variable{gs:Nat}{pol:Bool}
section
variable{E:En}
def ca{N:Fr}{c:Bool}(h:bu G k=some (iI c t))(hc:c=true):aD N G (.tmp k) t:=fun _ _ hF=>by
 have H:if c=true then t.p _ (Act.eval _ (.tmp k))else _=undef:=hF.at_ k _ h
 rw [eF hc]at H;exact H
def nH(c b:Bool):Ty:=iI c (X rB b)
def nG(h:bu G k=some (X rB b)):aD E.N G (.tmp k) (nH true b):=fun _ _ hF=>by
 have H:(X rB b).p _ (Act.eval _ (.tmp k)):=hF.at_ k _ h
 simp only [nH,iI,ni]
 exact H
def vZ{c:Bool}(h:bu G k=some (iI c (X rB b))):aD E.N G (.tmp k) (nH c b):=fun _ _ hF=>hF.at_ k _ h
def tS{c:Bool}(Z:o.guard=some (j,pol))(hj:(ops[j]?).bind (·.dst)=some gs)(hn:gs<a.tmps.size)(hv:(nH c b).p S (a.tmps.getD gs undef)):
  Region.wanted o (yielded ops a.tmps)=(c&&(b==pol)):=by
 have hget:a.tmps[gs]? =some (a.tmps.getD gs undef):=by
  rw [wB,Array.getElem?_eq_getElem hn];rfl
 unfold Region.wanted
 rw [Z]
 simp only [yielded,hj,fM,hget]
 cases c with
 |true=>
  have:a.tmps.getD gs undef= .bool b:=fz.1 (by simpa [nH,iI] using hv)
  rw [this]
  cases b<;>cases pol<;>rfl
 |false=>
  have:a.tmps.getD gs undef=undef:=by simpa [nH,iI] using hv
  rw [this]
  cases pol<;>rfl
def xr{c:Bool}{op:Op}{ty:TypeId}(hj:(ops[j]?).bind (·.dst)=some gs)(hgs:Nat.blt gs E.N.n=true)(Z:aD E.N G (.tmp gs) (nH c b))(hd:Nat.blt d E.N.n=true)(h:(c&&(b==pol))=true->bJ E O G ⟨some d,op,ty,pos,after,some (j,pol)⟩ t)(k:RG E ops Q rest O ((d,iI (c&&(b==pol)) t)::G)):
  RG E ops Q (⟨some d,op,ty,pos,after,some (j,pol)⟩::rest) O G:=fun a w S st=>by
 have hgs' :gs<a.tmps.size:=by rw [st.facts.size];simpa [pc] using hgs
 have hw:=tS (o:=⟨some d,op,ty,pos,after,some (j,pol)⟩) rfl hj hgs' (Z S a st.facts)
 refine wpListIn_step fun ae hK=>?_
 rw [hw]
 by_cases hc:(c&&(b==pol))=true
 ·rw [eF hc]
  refine gj (fun a' w' ⟨v,S',ha,he,hs,hv⟩=>?_) (h hc a w S st.sat st.own st.facts)
  subst ha
  refine hK _ _ (k _ _ _ (st.step he hs hd ?_))
  simpa only [iI,hc,ni] using hv
 ·rw [ei hc]
  refine⟨fun _ _=>trivial,hK _ _ (k _ _ S (st.step (ez.refl _ _ _) st.sat hd ?_))⟩
  show if _ then _ else _
  rw [ei hc]
end

structure Nd where
 slot:Nat
 ty:Ty
 src:Option Nat
def bG(E:En)(O:List OE)(ops:Array Oper)(need:gJ)(o:Oper)(t:Ty):Prop:=
 ∀a w S,gc w S->cF E.base E.B w S O->db E.N S a need->
  if Region.wanted o (yielded ops a.tmps)then yk E.P o a w (fun a' w' => ∃v S',a' =a.put o.dst v/\ez la w S w' S' /\gc w' S' /\t.p S' v)else t.p S undef
def eM:List Nd->gJ
 |[]=>[]
 |n::l=>(n.slot,n.ty)::eM l
def sO(o:Oper)(j:Nat):Bool:=o.after.toList.any fun e=>Nat.beq e.on j&&Region.binds .any e
def jd(l:List Oper)(o:Oper)(i:Nat)(n:Nd):Bool:=
 match n.src with
 |some j=>(match l[j]? with|some p=>(match p.dst with|some d=>Nat.beq d n.slot|none=>false)|none=>false)&&sO o j
 |none=>l.all fun p=>(match p.dst with|some d=> !(Nat.beq d n.slot)|none=>true)||sO p i
def pj(G:gJ)(ts:List Ty)(n:Nd):Prop:=
 match n.src with
 |some j=>ts[j]? =some n.ty
 |none=>bu G n.slot=some n.ty
def lb(G:gJ)(ts:List Ty):List Nd->Prop
 |[]=>True
 |n::l=>pj G ts n/\lb G ts l
def lb.mem: ∀{l:List Nd},lb G ts l-> ∀n∈l,pj G ts n
 |_::_,⟨h,_⟩,_,.head _=>h
 |_::_,⟨_,h⟩,_,.tail _ hm=>lb.mem h _ hm
def EQ(o:Oper):Nat:=o.dst.getD 0
def cQ(i:Nat)(o:Oper):Bool:=o.after.toList.all fun e=> !(Region.binds .any e)||Nat.blt e.on i
def DR(E:En)(O:List OE)(G:gJ)(l:List Oper)(ts:List Ty):Nat->List Oper->Prop
 |_,[]=>True
 |i,o::rest=>(∃(needs:List Nd) (t:Ty),ts[i]? =some t/\lb G ts needs/\(needs.all (jd l o i))=true/\cQ i o=true/\bG E O l.toArray (eM needs) o t)/\DR E O G l ts (i+1) rest
def oB(N:Nat):List Nat->List Oper->Bool
 |_,[]=>true
 |seen,o::rest=>(match o.dst with|some d=>Nat.blt d N&& !(seen.any (Nat.beq d))&&oB N (d::seen) rest|none=>false)
def Ji(E:En)(O:List OE)(G:gJ)(l:List Oper)(ts:List Ty)(i:Nat)(o:Oper):Prop:=
 ∃(needs:List Nd) (t:Ty),ts[i]? =some t/\lb G ts needs/\(needs.all (jd l o i))=true/\cQ i o=true/\bG E O l.toArray (eM needs) o t
def DR.get{E:En}{l:List Oper}(r:List Oper): ∀(k:Nat),DR E O G l ts k r-> ∀(j:Nat) (o:Oper),r[j]? =some o->Ji E O G l ts (k+j) o:=by
 induction r with
 |nil=>intro k _ j o h;simp at h
 |cons p r ih=>
  intro k h j o ho
  cases j with
  |zero=>simp at ho;subst ho;exact h.1
  |succ j=>
   have:=ih (k+1) h.2 j o (by simpa using ho)
   rwa [show k+1+j=k+(j+1)from by omega]at this
def py{N:Nat}(l:List Oper): ∀(seen:List Nat),oB N seen l=true->
  (∀o:Oper,o∈l-> ∃d,o.dst=some d/\d<N/\d∉seen)/\ ∀(i j:Nat) (o p:Oper),l[i]? =some o->l[j]? =some p->o.dst=p.dst->i=j:=by
 induction l with
 |nil=>exact fun _ _=>⟨fun _ h=>(by cases h),fun _ _ _ _ h=>(by simp at h)⟩
 |cons o l ih=>
  intro seen h
  unfold oB at h
  cases hd:o.dst with
  |none=>rw [hd]at h;cases h
  |some d=>
   rw [hd]at h
   simp only [kA,za]at h
   obtain⟨⟨Y,H⟩,h3⟩:=h
   have h2' :d∉seen:=fun hm=>by
    rw [List.any_eq_false]at H
    exact H d hm (by simp)
   obtain⟨ih1,ih2⟩:=ih _ h3
   refine⟨fun q hq=>?_,fun i j q p hi hj hdp=>?_⟩
   ·rcases eV.1 hq with rfl|hq
    ·exact⟨d,hd,by simpa [pc] using Y,h2'⟩
    ·obtain⟨d',e1,e2,e3⟩:=ih1 q hq
     exact⟨d',e1,e2,fun hm=>e3 (nf _ hm)⟩
   ·cases i with
    |zero=>
     cases j with
     |zero=>rfl
     |succ j=>
      simp at hi hj
      subst hi
      obtain⟨d',e1,_,e3⟩:=ih1 p (pq hj)
      rw [hd,e1]at hdp
      have e4:d=d' :=by simpa using hdp
      exact absurd (by rw [e4];exact k5 ..) e3
    |succ i=>
     cases j with
     |zero=>
      simp at hi hj
      subst hj
      obtain⟨d',e1,_,e3⟩:=ih1 q (pq hi)
      rw [hd,e1]at hdp
      have e4:d' =d:=by simpa using hdp
      exact absurd (by rw [e4];exact k5 ..) e3
     |succ j=>rw [ih2 i j q p (by simpa using hi) (by simpa using hj) hdp]

structure DJ(E:En)(O:List OE)(G:gJ)(l:List Oper)(ts:List Ty)(done:Array Bool)(a:Act)(w:World)(S:SH):Prop where
 ext:ez E.B E.w0 E.S0 w S
 sat:gc w S
 own:cF E.base E.B w S O
 size:a.tmps.size=E.N.n
 defers:a.defers=E.N.ds
 dsz:done.size=l.length
 down: ∀j o,l[j]? =some o->done.getD j false=true-> ∀e∈o.after,Region.binds .any e=true->done.getD e.on false=true
 old: ∀k t,bu G k=some t->(∀j o,l[j]? =some o->done.getD j false=true->o.dst≠some k)->t.p S (a.tmps.getD k undef)
 new: ∀j o d t,l[j]? =some o->done.getD j false=true->o.dst=some d->ts[j]? =some t->t.p S (a.tmps.getD d undef)
variable{done:Array Bool}
def DJ.need{E:En}{l:List Oper}(h:DJ E O G l ts done a w S)(hi:l[i]? =some o)(hun:done.getD i true=false)(hwait: ∀e∈o.after,Region.binds .any e=true->done.getD e.on false=true){needs:List Nd}(Y:lb G ts needs)(H:(needs.all (jd l o i))=true):db E.N S a (eM needs):=by
 have hlt:i<done.size:=by rw [h.dsz];exact(mH.1 hi).1
 have hun' :done.getD i false=false:=by
  simp [hlt]at hun ⊢;exact hun
 refine⟨h.size,h.defers,?_⟩
 have key: ∀n∈needs,n.ty.p S (a.tmps.getD n.slot undef):=by
  intro n hn
  have hs:=kz.1 H n hn
  have ho:=Y.mem n hn
  unfold jd at hs
  unfold pj at ho
  cases hsrc:n.src with
  |some j=>
   rw [hsrc]at hs ho
   simp only [kA]at hs
   obtain⟨hs1,hs2⟩:=hs
   cases hj:l[j]? with
   |none=>rw [hj]at hs1;cases hs1
   |some p=>
    rw [hj]at hs1
    cases hd:p.dst with
    |none=>simp only [hd]at hs1;cases hs1
    |some d=>
     simp only [hd]at hs1
     have hd' :=kB hs1
     subst hd'
     have hdone:done.getD j false=true:=by
      unfold sO at hs2
      obtain⟨e,he0,V⟩:=q7.1 hs2
      have he:e∈o.after:=by simpa using he0
      simp only [kA]at V
      have:=hwait e he V.2
      rwa [kB V.1]at this
     exact h.new j p n.slot n.ty hj hdone hd ho
  |none=>
   rw [hsrc]at hs ho
   refine h.old _ _ ho fun j p hj hdone hd=>?_
   have:=kz.1 hs p (pq hj)
   simp only [hd,Nat.beq_refl,po,tI]at this
   unfold sO at this
   obtain⟨e,he0,V⟩:=q7.1 this
   have he:e∈p.after:=by simpa using he0
   simp only [kA]at V
   have h3:=h.down j p hj hdone e he V.2
   rw [kB V.1]at h3
   rw [h3]at hun'
   cases hun'
 clear Y H
 intro k t hk
 induction needs with
 |nil=>simp [eM,bu]at hk
 |cons n needs ih=>
  unfold eM bu at hk
  by_cases V:Nat.beq n.slot k=true
  ·rw [V]at hk
   have:=kB V
   subst this
   have e:n.ty=t:=by simpa using hk
   rw [<-e]
   exact key n (k5 ..)
  ·rw [q8]at V
   rw [V]at hk
   exact ih (fun m hm=>key m (nf _ hm)) hk
def zB:List Oper->List Ty->gJ->gJ
 |o::l,t::ts,G=>(EQ o,t)::zB l ts G
 |_,_,G=>G
def vS(l:List Oper): ∀(ts:List Ty) (k:Nat) (t:Ty),(∀o:Oper,o∈l->o.dst≠none)->ts.length=l.length->bu (zB l ts G) k=some t->
  (∃(j:Nat) (o:Oper),l[j]? =some o/\o.dst=some k/\ts[j]? =some t)\/(bu G k=some t/\ ∀o:Oper,o∈l->o.dst≠some k):=by
 induction l with
 |nil=>
  intro ts k t _ hl h
  have:ts=[]:=ra (by simpa using hl)
  subst this
  exact .inr ⟨h,fun _ h=>(by cases h)⟩
 |cons o l ih=>
  intro ts k t hne hl h
  cases ts with
  |nil=>simp at hl
  |cons u ts=>
   unfold zB bu at h
   by_cases V:Nat.beq (EQ o) k=true
   ·rw [V]at h
    have hk:=kB V
    refine .inl ⟨0,o,rfl,?_,by simpa using h⟩
    cases hd:o.dst with
    |none=>exact absurd hd (hne o (k5 ..))
    |some d=>simp only [EQ,hd,Option.getD_some]at hk;rw [hk]
   ·rw [q8]at V
    rw [V]at h
    rcases ih ts k t (fun p hp=>hne p (nf _ hp)) (by simpa using hl) h with⟨j,p,Y,H,h3⟩|⟨Y,H⟩
    ·exact .inl ⟨j+1,p,by simpa using Y,H,by simpa using h3⟩
    ·refine .inr ⟨Y,fun p hp hd=>?_⟩
     rcases eV.1 hp with rfl|hp
     ·simp [EQ,hd]at V
     ·exact H p hp hd
def lG(hd:d<a.tmps.size):(a.put (some d) v).tmps.getD k undef=if d=k then v else a.tmps.getD k undef:=by
 by_cases h:d=k
 ·subst h;simp [Act.put,wB,hd]
 ·simp [Act.put,wB,h]
def DJ.step{E:En}{l:List Oper}(h:DJ E O G l ts done a w S)(hsl:oB E.N.n [] l=true)(hi:l[i]? =some o)(hwait: ∀e∈o.after,Region.binds .any e=true->done.getD e.on false=true)(D:ts[i]? =some t)(hun:done.getD i true=false)(hext:ez la w S w' S')(hsat:gc w' S')(hv:t.p S' v):DJ E O G l ts (done.setIfInBounds i true) (a.put o.dst v) w' S' :=by
 obtain⟨hs1,hs2⟩:=py l [] hsl
 obtain⟨d,hd,hdN,_⟩:=hs1 o (pq hi)
 have hda:d<a.tmps.size:=by rw [h.size];exact hdN
 have hlt:i<done.size:=by rw [h.dsz];exact(mH.1 hi).1
 have hset: ∀j,(done.setIfInBounds i true).getD j false=true->j=i\/done.getD j false=true:=fun j hj=>by
  by_cases hij:i=j
  ·exact .inl hij.symm
  ·rw [rY false hij]at hj;exact .inr hj
 have hseti:(done.setIfInBounds i true).getD i false=true:=by simp [hlt]
 have hun' :done.getD i false=false:=by simp [hlt]at hun ⊢;exact hun
 refine⟨h.ext.step0 hext,hsat,h.own.ext0 hext,?_,?_,by simp [h.dsz],fun j p hj hdone e he V=>?_,fun k u hk hno=>?_,fun j p d' u hj hdone hd' hu=>?_⟩
 ·rw [hd];simp [Act.put,h.size]
 ·rw [hd];exact h.defers
 ·rcases hset j hdone with rfl|hj'
  ·rw [hi]at hj
   have:o=p:=by simpa using hj
   subst this
   exact ox (hwait e he V)
  ·exact ox (h.down j p hj hj' e he V)
 ·have hne:d≠k:=fun e=>hno i o hi hseti (by rw [hd,e])
  rw [hd,lG hda,ei hne]
  exact u.mono hext.keep (h.old k u hk fun j p hj hdone=>hno j p hj (ox hdone))
 ·rw [hd,lG hda]
  rcases hset j hdone with rfl|hj'
  ·rw [hi]at hj
   have:o=p:=by simpa using hj
   subst this
   rw [hd]at hd'
   have:d=d' :=by simpa using hd'
   subst this
   rw [eF rfl]
   rw [D]at hu
   have:t=u:=by simpa using hu
   subst this
   exact hv
  ·have hne:d≠d' :=fun e=>by
    subst e
    have:=hs2 i j o p hi hj (by rw [hd,hd'])
    subst this
    rw [hj']at hun';cases hun'
   rw [ei hne]
   exact u.mono hext.keep (h.new j p d' u hj hj' hd' hu)
def yR{l:List Oper}{done:Array Bool}(hsz:done.size=l.length)(hedge: ∀i o,l[i]? =some o->cQ i o=true)(hr:Region.ready .any l.toArray done=[]): ∀n i,i<n->i<l.length->done.getD i false=true
 |0,i,h,_=>by omega
 |n+1,i,h,hi=>by
  have ih:=yR hsz hedge hr n
  by_cases hd:done.getD i true=true
  ·have:i<done.size:=by omega
   simp [this]at hd ⊢;exact hd
  ·exfalso
   have hmem:i∈Region.ready .any l.toArray done:=by
    rw [qw]
    refine⟨by simpa using hd,l[i],by simp [hi],fun e he V=>?_⟩
    have:=hedge i l[i] (by simp [hi])
    unfold cQ at this
    have:=kz.1 this e (by simpa using he)
    simp only [V,po,tI,pc]at this
    exact ih e.on (by omega) (by omega)
   rw [hr]at hmem
   cases hmem
def gz(done:Array Bool):Nat:=done.toList.countP (· ==false)
def lg(h:done.getD i true=false):gz (done.setIfInBounds i true)+1=gz done:=by
 have hlt:i<done.size:=by
  rcases iH i done.size with h' |h'
  ·exact h'
  ·simp [Array.getElem?_eq_none h']at h
 have hv:done[i]=false:=by simpa [hlt] using h
 unfold gz
 rw [Array.toList_setIfInBounds,List.countP_set (by simpa using hlt)]
 have H:(done.toList[i]'(by simpa using hlt))=false:=by simpa using hv
 have hpos:0<done.toList.countP (· ==false):=List.countP_pos_iff.2 ⟨done.toList[i]'(by simpa using hlt),List.getElem_mem _,by rw [H];rfl⟩
 rw [H,eF (show(false==false)=true from rfl),ei (show¬((true==false)=true) by decide)]
 omega
def zf{E:En}{l:List Oper}(hsl:oB E.N.n [] l=true)(hd:DR E O G l ts 0 l)(hQ: ∀done a w S,DJ E O G l ts done a w S->(∀i,i<l.length->done.getD i false=true)->Q .normal a w):
  ∀(fuel:Nat) (done:Array Bool) (a:Act) (w:World) (S:SH),gz done=fuel->DJ E O G l ts done a w S->wpAnyIn (fw E.r) 0 E.P .any l.toArray Q fuel done a w:=by
 have hedge: ∀i o,l[i]? =some o->cQ i o=true:=fun i o hi=>by
  obtain⟨_,_,_,_,_,h,_⟩:=DR.get l 0 hd i o hi
  simpa using h
 have fin: ∀done a w S,DJ E O G l ts done a w S->Region.ready .any l.toArray done=[]->Q .normal a w:=fun done a w S h hr=>
  hQ done a w S h fun i hi=>yR h.dsz hedge hr (i+1) i (by omega) hi
 intro fuel
 induction fuel with
 |zero=>
  intro done a w S hu h
  have hr:Region.ready .any l.toArray done=[]:=by
   cases hr:Region.ready .any l.toArray done with
   |nil=>rfl
   |cons i r=>
    have hm:i∈Region.ready .any l.toArray done:=by rw [hr];exact k5 ..
    have:=lg (qw.1 hm).1
    omega
  exact⟨hr,fin done a w S h hr⟩
 |succ fuel ih=>
  intro done a w S hu h
  refine⟨fin done a w S h,fun i hi=>?_⟩
  obtain⟨hun,o,ho,hwait⟩:=qw.1 hi
  have ho' :l[i]? =some o:=by simpa using ho
  obtain⟨needs,t,Y,H,h3,_,h5⟩:=DR.get l 0 hd i o ho'
  rw [oa]at Y h3
  have hF:=h.need ho' hun hwait H h3
  have h6:=h5 a w S h.sat h.own hF
  have hu' :gz (done.setIfInBounds i true)=fuel:=by have:=lg hun;omega
  unfold wpOpIn
  rw [ho]
  show if _ then _ else _
  by_cases hw:Region.wanted o (yielded l.toArray a.tmps)=true
  ·rw [eF hw]at h6 ⊢
   refine gj (fun a' w' ⟨v,S',ha,he,hs,hv⟩=>?_) h6
   subst ha
   exact ih _ _ _ S' hu' (h.step hsl ho' hwait Y hun he hs hv)
  ·rw [ei hw]at h6 ⊢
   exact⟨fun _ _=>trivial,ih _ _ _ S hu' (h.step hsl ho' hwait Y hun (ez.refl _ _ _) h.sat h6)⟩
section
variable{E:En}
def eC{id:Nat}{l:List Oper}(hm:E.P.follows .mixedOrders=true)(hsl:oB E.N.n [] l=true)(hlen:ts.length=l.length)(hd:DR E O G l ts 0 l)(k:AT E Q .normal O (zB l ts G)):
  CG E Q (.region id l.toArray true) O G:=fun a w S st=>by
 refine wpIn_region_any hm ?_
 obtain⟨he,hs⟩:=pT (w:=w) st.sat
 refine zf hsl hd (fun done a w S h hall=>k a w S ⟨h.ext,h.sat,h.own,h.size,h.defers,fun j t hj=>?_⟩) _ _ _ _ S ?_
  ⟨st.ext.step0 he,hs,st.own.ext0 he,st.facts.size,st.facts.defers,by simp,fun j o hj hdone=>?_,fun k t hk _=>st.facts.at_ k t hk,fun j o d t hj hdone=>?_⟩
 ·obtain⟨hs1,_⟩:=py l [] hsl
  rcases vS l ts j t (fun o ho e=>by obtain⟨d,hd,_⟩:=hs1 o ho;rw [hd]at e;cases e) hlen hj with⟨i,o,Y,H,h3⟩|⟨Y,H⟩
  ·exact h.new i o j t Y (hall i (mH.1 Y).1) H h3
  ·exact h.old j t Y fun i o ho _=>H o (pq ho)
 ·unfold gz;rw [Al,Aj];simp
 ·simp [qy]at hdone
  split at hdone<;>simp at hdone
 ·simp [qy]at hdone
  split at hdone<;>simp at hdone
def ac{need:gJ}(Z:o.guard=none)(h:bJ E O need o t):bG E O ops need o t:=fun a w S hs ho M=>by
 have:Region.wanted o (yielded ops a.tmps)=true:=by unfold Region.wanted;rw [Z]
 rw [this,eF rfl]
 exact h a w S hs ho M
def ta{l:List Oper}{need:gJ}{c:Bool}(Z:o.guard=some (j,pol))(hj:((l.toArray)[j]?).bind (·.dst)=some gs)(hgs:Nat.blt gs E.N.n=true)(V:aD E.N need (.tmp gs) (nH c b))(h:(c&&(b==pol))=true->bJ E O need o t):bG E O l.toArray need o (iI (c&&(b==pol)) t):=fun a w S hs ho M=>by
 have hw:=tS (ops:=l.toArray) Z hj (by rw [M.size];simpa [pc] using hgs) (V S a M)
 rw [hw]
 by_cases hc:(c&&(b==pol))=true
 ·rw [eF hc]
  refine jv (fun a' w' ⟨v,S',ha,he,hs,hv⟩=>⟨v,S',ha,he,hs,?_⟩) (h hc a w S hs ho M)
  show if _ then _ else _
  rw [eF hc];exact hv
 ·rw [ei hc]
  show if _ then _ else _
  rw [ei hc]
end
variable{α0 α1 α2 α3 α4 α5:Type}{Gf:α0->α1->α2->α3->α4->α5->gJ}{Of:α0->α1->α2->α3->α4->α5->List OE}{α6:Type}
section
variable{E:En}
def sJ{id:Nat}{hg:Prop}{Of:List OE}{Gf:gJ}(hK:hg->AT E Q .normal (Of) (Gf))(h:(hg->AT E Q .normal (Of) (Gf))->CG E (Exit.inBlock id Q) c O G):CG E Q (.block id c) O G:=am (h hK)
def BU{x y:Code}{hg:Prop}{Of:List OE}{Gf:gJ}(hK:hg->CG E Q y (Of) (Gf))
  (h:(hg->AT E (Exit.then (y.wpIn (fw E.r) 0 E.P Q) Q) .normal (Of) (Gf))->CG E (Exit.then (y.wpIn (fw E.r) 0 E.P Q) Q) x O G):CG E Q (.seq x y) O G:=aF (h (fun hz=>hK hz))
def iw{hg:List β->α0->Prop}{Of:List β->α0->List OE}{Gf:List β->α0->gJ}(h0: ∀x0,hg [] x0->LG E Q c (Of [] x0) (Gf [] x0))(h: ∀b l,(∀x0,hg l x0->LG E Q c (Of l x0) (Gf l x0))-> ∀x0,hg (b::l) x0->LG E Q c (Of (b::l) x0) (Gf (b::l) x0)): ∀l,∀x0,hg l x0->LG E Q c (Of l x0) (Gf l x0)
 |[]=>h0
 |b::l=>h b l (iw h0 h l)
def wr{id:Nat}{hg:α0->Prop}{Of:α0->List OE}{Gf:α0->gJ}(hK: ∀x0,hg x0->AT E Q .normal (Of x0) (Gf x0))(h:(∀x0,hg x0->AT E Q .normal (Of x0) (Gf x0))->CG E (Exit.inBlock id Q) c O G):CG E Q (.block id c) O G:=am (h hK)
def eT{x y:Code}{hg:α0->Prop}{Of:α0->List OE}{Gf:α0->gJ}(hK: ∀x0,hg x0->CG E Q y (Of x0) (Gf x0))(h:(∀x0,hg x0->AT E (Exit.then (y.wpIn (fw E.r) 0 E.P Q) Q) .normal (Of x0) (Gf x0))->CG E (Exit.then (y.wpIn (fw E.r) 0 E.P Q) Q) x O G):CG E Q (.seq x y) O G:=aF (h (fun x0=>fun hz=>hK x0 hz))
def AS{hg:Nat->α0->α1->Prop}{Of:α0->α1->List OE}{Gf:α0->α1->gJ}(h0: ∀x0 x1,hg 0 x0 x1->False)(h: ∀n,(∀x0 x1,hg n x0 x1->LG E Q c (Of x0 x1) (Gf x0 x1))-> ∀x0 x1,hg (n+1) x0 x1->LG E Q c (Of x0 x1) (Gf x0 x1)): ∀n,∀x0 x1,hg n x0 x1->LG E Q c (Of x0 x1) (Gf x0 x1)
 |0=>fun x0 x1 hz=>(h0 x0 x1 hz).elim
 |n+1=>h n (AS h0 h n)
def gv{hg:List β->α0->α1->Prop}{Of:List β->α0->α1->List OE}{Gf:List β->α0->α1->gJ}(h0: ∀x0 x1,hg [] x0 x1->LG E Q c (Of [] x0 x1) (Gf [] x0 x1))(h: ∀b l,(∀x0 x1,hg l x0 x1->LG E Q c (Of l x0 x1) (Gf l x0 x1))-> ∀x0 x1,hg (b::l) x0 x1->LG E Q c (Of (b::l) x0 x1) (Gf (b::l) x0 x1)): ∀l,∀x0 x1,hg l x0 x1->LG E Q c (Of l x0 x1) (Gf l x0 x1)
 |[]=>h0
 |b::l=>h b l (gv h0 h l)
def BZ{id:Nat}{hg:α0->α1->Prop}{Of:α0->α1->List OE}{Gf:α0->α1->gJ}(hK: ∀x0 x1,hg x0 x1->AT E Q .normal (Of x0 x1) (Gf x0 x1))(h:(∀x0 x1,hg x0 x1->AT E Q .normal (Of x0 x1) (Gf x0 x1))->CG E (Exit.inBlock id Q) c O G):CG E Q (.block id c) O G:=am (h hK)
def BT{x y:Code}{hg:α0->α1->Prop}{Of:α0->α1->List OE}{Gf:α0->α1->gJ}(hK: ∀x0 x1,hg x0 x1->CG E Q y (Of x0 x1) (Gf x0 x1))(h:(∀x0 x1,hg x0 x1->AT E (Exit.then (y.wpIn (fw E.r) 0 E.P Q) Q) .normal (Of x0 x1) (Gf x0 x1))->CG E (Exit.then (y.wpIn (fw E.r) 0 E.P Q) Q) x O G):CG E Q (.seq x y) O G:=aF (h (fun x0 x1=>fun hz=>hK x0 x1 hz))
def ou{hg:List β->α0->α1->α2->Prop}{Of:List β->α0->α1->α2->List OE}{Gf:List β->α0->α1->α2->gJ}(h0: ∀x0 x1 x2,hg [] x0 x1 x2->LG E Q c (Of [] x0 x1 x2) (Gf [] x0 x1 x2))(h: ∀b l,(∀x0 x1 x2,hg l x0 x1 x2->LG E Q c (Of l x0 x1 x2) (Gf l x0 x1 x2))-> ∀x0 x1 x2,hg (b::l) x0 x1 x2->LG E Q c (Of (b::l) x0 x1 x2) (Gf (b::l) x0 x1 x2)): ∀l,∀x0 x1 x2,hg l x0 x1 x2->LG E Q c (Of l x0 x1 x2) (Gf l x0 x1 x2)
 |[]=>h0
 |b::l=>h b l (ou h0 h l)
def AP{hg:Nat->α0->α1->α2->Prop}{Of:Nat->α0->α1->α2->List OE}{Gf:Nat->α0->α1->α2->gJ}(h0: ∀x0 x1 x2,hg 0 x0 x1 x2->LG E Q c (Of 0 x0 x1 x2) (Gf 0 x0 x1 x2))(h: ∀n,(∀x0 x1 x2,hg n x0 x1 x2->LG E Q c (Of n x0 x1 x2) (Gf n x0 x1 x2))-> ∀x0 x1 x2,hg (n+1) x0 x1 x2->LG E Q c (Of (n+1) x0 x1 x2) (Gf (n+1) x0 x1 x2)): ∀n,∀x0 x1 x2,hg n x0 x1 x2->LG E Q c (Of n x0 x1 x2) (Gf n x0 x1 x2)
 |0=>h0
 |n+1=>h n (AP h0 h n)
def BY{id:Nat}{hg:α0->α1->α2->Prop}{Of:α0->α1->α2->List OE}{Gf:α0->α1->α2->gJ}(hK: ∀x0 x1 x2,hg x0 x1 x2->AT E Q .normal (Of x0 x1 x2) (Gf x0 x1 x2))(h:(∀x0 x1 x2,hg x0 x1 x2->AT E Q .normal (Of x0 x1 x2) (Gf x0 x1 x2))->CG E (Exit.inBlock id Q) c O G):CG E Q (.block id c) O G:=am (h hK)
def BS{x y:Code}{hg:α0->α1->α2->Prop}{Of:α0->α1->α2->List OE}{Gf:α0->α1->α2->gJ}(hK: ∀x0 x1 x2,hg x0 x1 x2->CG E Q y (Of x0 x1 x2) (Gf x0 x1 x2))(h:(∀x0 x1 x2,hg x0 x1 x2->AT E (Exit.then (y.wpIn (fw E.r) 0 E.P Q) Q) .normal (Of x0 x1 x2) (Gf x0 x1 x2))->CG E (Exit.then (y.wpIn (fw E.r) 0 E.P Q) Q) x O G):CG E Q (.seq x y) O G:=aF (h (fun x0 x1 x2=>fun hz=>hK x0 x1 x2 hz))
def AR{hg:Nat->α0->α1->α2->α3->Prop}{Of:α0->α1->α2->α3->List OE}{Gf:α0->α1->α2->α3->gJ}(h0: ∀x0 x1 x2 x3,hg 0 x0 x1 x2 x3->False)(h: ∀n,(∀x0 x1 x2 x3,hg n x0 x1 x2 x3->LG E Q c (Of x0 x1 x2 x3) (Gf x0 x1 x2 x3))-> ∀x0 x1 x2 x3,hg (n+1) x0 x1 x2 x3->LG E Q c (Of x0 x1 x2 x3) (Gf x0 x1 x2 x3)): ∀n,∀x0 x1 x2 x3,hg n x0 x1 x2 x3->LG E Q c (Of x0 x1 x2 x3) (Gf x0 x1 x2 x3)
 |0=>fun x0 x1 x2 x3 hz=>(h0 x0 x1 x2 x3 hz).elim
 |n+1=>h n (AR h0 h n)
def kY{hg:List β->α0->α1->α2->α3->Prop}{Of:List β->α0->α1->α2->α3->List OE}{Gf:List β->α0->α1->α2->α3->gJ}(h0: ∀x0 x1 x2 x3,hg [] x0 x1 x2 x3->LG E Q c (Of [] x0 x1 x2 x3) (Gf [] x0 x1 x2 x3))(h: ∀b l,(∀x0 x1 x2 x3,hg l x0 x1 x2 x3->LG E Q c (Of l x0 x1 x2 x3) (Gf l x0 x1 x2 x3))-> ∀x0 x1 x2 x3,hg (b::l) x0 x1 x2 x3->LG E Q c (Of (b::l) x0 x1 x2 x3) (Gf (b::l) x0 x1 x2 x3)): ∀l,∀x0 x1 x2 x3,hg l x0 x1 x2 x3->LG E Q c (Of l x0 x1 x2 x3) (Gf l x0 x1 x2 x3)
 |[]=>h0
 |b::l=>h b l (kY h0 h l)
def xw{hg:Nat->α0->α1->α2->α3->Prop}{Of:Nat->α0->α1->α2->α3->List OE}{Gf:Nat->α0->α1->α2->α3->gJ}(h0: ∀x0 x1 x2 x3,hg 0 x0 x1 x2 x3->LG E Q c (Of 0 x0 x1 x2 x3) (Gf 0 x0 x1 x2 x3))(h: ∀n,(∀x0 x1 x2 x3,hg n x0 x1 x2 x3->LG E Q c (Of n x0 x1 x2 x3) (Gf n x0 x1 x2 x3))-> ∀x0 x1 x2 x3,hg (n+1) x0 x1 x2 x3->LG E Q c (Of (n+1) x0 x1 x2 x3) (Gf (n+1) x0 x1 x2 x3)): ∀n,∀x0 x1 x2 x3,hg n x0 x1 x2 x3->LG E Q c (Of n x0 x1 x2 x3) (Gf n x0 x1 x2 x3)
 |0=>h0
 |n+1=>h n (xw h0 h n)
def wq{id:Nat}{hg:α0->α1->α2->α3->Prop}{Of:α0->α1->α2->α3->List OE}{Gf:α0->α1->α2->α3->gJ}(hK: ∀x0 x1 x2 x3,hg x0 x1 x2 x3->AT E Q .normal (Of x0 x1 x2 x3) (Gf x0 x1 x2 x3))(h:(∀x0 x1 x2 x3,hg x0 x1 x2 x3->AT E Q .normal (Of x0 x1 x2 x3) (Gf x0 x1 x2 x3))->CG E (Exit.inBlock id Q) c O G):CG E Q (.block id c) O G:=am (h hK)
def j8{hg:List β->α0->α1->α2->α3->α4->Prop}{Of:List β->α0->α1->α2->α3->α4->List OE}{Gf:List β->α0->α1->α2->α3->α4->gJ}(h0: ∀x0 x1 x2 x3 x4,hg [] x0 x1 x2 x3 x4->LG E Q c (Of [] x0 x1 x2 x3 x4) (Gf [] x0 x1 x2 x3 x4))(h: ∀b l,(∀x0 x1 x2 x3 x4,hg l x0 x1 x2 x3 x4->LG E Q c (Of l x0 x1 x2 x3 x4) (Gf l x0 x1 x2 x3 x4))-> ∀x0 x1 x2 x3 x4,hg (b::l) x0 x1 x2 x3 x4->LG E Q c (Of (b::l) x0 x1 x2 x3 x4) (Gf (b::l) x0 x1 x2 x3 x4)): ∀l,∀x0 x1 x2 x3 x4,hg l x0 x1 x2 x3 x4->LG E Q c (Of l x0 x1 x2 x3 x4) (Gf l x0 x1 x2 x3 x4)
 |[]=>h0
 |b::l=>h b l (j8 h0 h l)
def AQ{hg:Nat->α0->α1->α2->α3->α4->α5->Prop}(h0: ∀x0 x1 x2 x3 x4 x5,hg 0 x0 x1 x2 x3 x4 x5->False)(h: ∀n,(∀x0 x1 x2 x3 x4 x5,hg n x0 x1 x2 x3 x4 x5->LG E Q c (Of x0 x1 x2 x3 x4 x5) (Gf x0 x1 x2 x3 x4 x5))-> ∀x0 x1 x2 x3 x4 x5,hg (n+1) x0 x1 x2 x3 x4 x5->LG E Q c (Of x0 x1 x2 x3 x4 x5) (Gf x0 x1 x2 x3 x4 x5)): ∀n,∀x0 x1 x2 x3 x4 x5,hg n x0 x1 x2 x3 x4 x5->LG E Q c (Of x0 x1 x2 x3 x4 x5) (Gf x0 x1 x2 x3 x4 x5)
 |0=>fun x0 x1 x2 x3 x4 x5 hz=>(h0 x0 x1 x2 x3 x4 x5 hz).elim
 |n+1=>h n (AQ h0 h n)
def yY{hg:List β->α0->α1->α2->α3->α4->α5->Prop}{Of:List β->α0->α1->α2->α3->α4->α5->List OE}{Gf:List β->α0->α1->α2->α3->α4->α5->gJ}(h0: ∀x0 x1 x2 x3 x4 x5,hg [] x0 x1 x2 x3 x4 x5->LG E Q c (Of [] x0 x1 x2 x3 x4 x5) (Gf [] x0 x1 x2 x3 x4 x5))(h: ∀b l,(∀x0 x1 x2 x3 x4 x5,hg l x0 x1 x2 x3 x4 x5->LG E Q c (Of l x0 x1 x2 x3 x4 x5) (Gf l x0 x1 x2 x3 x4 x5))-> ∀x0 x1 x2 x3 x4 x5,hg (b::l) x0 x1 x2 x3 x4 x5->LG E Q c (Of (b::l) x0 x1 x2 x3 x4 x5) (Gf (b::l) x0 x1 x2 x3 x4 x5)): ∀l,∀x0 x1 x2 x3 x4 x5,hg l x0 x1 x2 x3 x4 x5->LG E Q c (Of l x0 x1 x2 x3 x4 x5) (Gf l x0 x1 x2 x3 x4 x5)
 |[]=>h0
 |b::l=>h b l (yY h0 h l)
def BX{id:Nat}{hg:α0->α1->α2->α3->α4->α5->Prop}(hK: ∀x0 x1 x2 x3 x4 x5,hg x0 x1 x2 x3 x4 x5->AT E Q .normal (Of x0 x1 x2 x3 x4 x5) (Gf x0 x1 x2 x3 x4 x5))(h:(∀x0 x1 x2 x3 x4 x5,hg x0 x1 x2 x3 x4 x5->AT E Q .normal (Of x0 x1 x2 x3 x4 x5) (Gf x0 x1 x2 x3 x4 x5))->CG E (Exit.inBlock id Q) c O G):CG E Q (.block id c) O G:=am (h hK)
def BR{x y:Code}{hg:α0->α1->α2->α3->α4->α5->Prop}(hK: ∀x0 x1 x2 x3 x4 x5,hg x0 x1 x2 x3 x4 x5->CG E Q y (Of x0 x1 x2 x3 x4 x5) (Gf x0 x1 x2 x3 x4 x5))(h:(∀x0 x1 x2 x3 x4 x5,hg x0 x1 x2 x3 x4 x5->AT E (Exit.then (y.wpIn (fw E.r) 0 E.P Q) Q) .normal (Of x0 x1 x2 x3 x4 x5) (Gf x0 x1 x2 x3 x4 x5))->CG E (Exit.then (y.wpIn (fw E.r) 0 E.P Q) Q) x O G):CG E Q (.seq x y) O G:=aF (h (fun x0 x1 x2 x3 x4 x5=>fun hz=>hK x0 x1 x2 x3 x4 x5 hz))
def yX{hg:List β->α0->α1->α2->α3->α4->α5->α6->Prop}{Of:List β->α0->α1->α2->α3->α4->α5->α6->List OE}{Gf:List β->α0->α1->α2->α3->α4->α5->α6->gJ}(h0: ∀x0 x1 x2 x3 x4 x5 x6,hg [] x0 x1 x2 x3 x4 x5 x6->LG E Q c (Of [] x0 x1 x2 x3 x4 x5 x6) (Gf [] x0 x1 x2 x3 x4 x5 x6))(h: ∀b l,(∀x0 x1 x2 x3 x4 x5 x6,hg l x0 x1 x2 x3 x4 x5 x6->LG E Q c (Of l x0 x1 x2 x3 x4 x5 x6) (Gf l x0 x1 x2 x3 x4 x5 x6))-> ∀x0 x1 x2 x3 x4 x5 x6,hg (b::l) x0 x1 x2 x3 x4 x5 x6->LG E Q c (Of (b::l) x0 x1 x2 x3 x4 x5 x6) (Gf (b::l) x0 x1 x2 x3 x4 x5 x6)): ∀l,∀x0 x1 x2 x3 x4 x5 x6,hg l x0 x1 x2 x3 x4 x5 x6->LG E Q c (Of l x0 x1 x2 x3 x4 x5 x6) (Gf l x0 x1 x2 x3 x4 x5 x6)
 |[]=>h0
 |b::l=>h b l (yX h0 h l)
def BQ{x y:Code}{hg:α0->α1->α2->α3->α4->α5->α6->Prop}{Of:α0->α1->α2->α3->α4->α5->α6->List OE}{Gf:α0->α1->α2->α3->α4->α5->α6->gJ}(hK: ∀x0 x1 x2 x3 x4 x5 x6,hg x0 x1 x2 x3 x4 x5 x6->CG E Q y (Of x0 x1 x2 x3 x4 x5 x6) (Gf x0 x1 x2 x3 x4 x5 x6))(h:(∀x0 x1 x2 x3 x4 x5 x6,hg x0 x1 x2 x3 x4 x5 x6->AT E (Exit.then (y.wpIn (fw E.r) 0 E.P Q) Q) .normal (Of x0 x1 x2 x3 x4 x5 x6) (Gf x0 x1 x2 x3 x4 x5 x6))->CG E (Exit.then (y.wpIn (fw E.r) 0 E.P Q) Q) x O G):CG E Q (.seq x y) O G:=aF (h (fun x0 x1 x2 x3 x4 x5 x6=>fun hz=>hK x0 x1 x2 x3 x4 x5 x6 hz))
def rQ{α7:Type}{hg:List β->α0->α1->α2->α3->α4->α5->α6->α7->Prop}{Of:List β->α0->α1->α2->α3->α4->α5->α6->α7->List OE}{Gf:List β->α0->α1->α2->α3->α4->α5->α6->α7->gJ}(h0: ∀x0 x1 x2 x3 x4 x5 x6 x7,hg [] x0 x1 x2 x3 x4 x5 x6 x7->LG E Q c (Of [] x0 x1 x2 x3 x4 x5 x6 x7) (Gf [] x0 x1 x2 x3 x4 x5 x6 x7))(h: ∀b l,(∀x0 x1 x2 x3 x4 x5 x6 x7,hg l x0 x1 x2 x3 x4 x5 x6 x7->LG E Q c (Of l x0 x1 x2 x3 x4 x5 x6 x7) (Gf l x0 x1 x2 x3 x4 x5 x6 x7))-> ∀x0 x1 x2 x3 x4 x5 x6 x7,hg (b::l) x0 x1 x2 x3 x4 x5 x6 x7->LG E Q c (Of (b::l) x0 x1 x2 x3 x4 x5 x6 x7) (Gf (b::l) x0 x1 x2 x3 x4 x5 x6 x7)): ∀l,∀x0 x1 x2 x3 x4 x5 x6 x7,hg l x0 x1 x2 x3 x4 x5 x6 x7->LG E Q c (Of l x0 x1 x2 x3 x4 x5 x6 x7) (Gf l x0 x1 x2 x3 x4 x5 x6 x7)
 |[]=>h0
 |b::l=>h b l (rQ h0 h l)
end
def bs{α:Type _}{β:Type _}{x:Option α}{k:α->Option β}{r:β}(h:x.bind k=some r): ∃y,x=some y/\k y=some r:=by
 cases x with
 |none=>cases h
 |some y=>exact⟨y,rfl,h⟩
def ct{β:Type _}{x y:Option β}{r:β}(h:(if b=true then x else y)=some r)(V:b=true):x=some r:=by rwa [eF V]at h
def cf{β:Type _}{x y:Option β}{r:β}(h:(if b=true then x else y)=some r)(V:b=false):y=some r:=by rwa [ei (by rw [V];decide)]at h
def so{β:Type _}{x r:β}(h:some x=some r):x=r:=by simpa using h
def og [Inhabited α]{x:Option α}{k:α->Option β}{d:Option β}{r:β}(h:(if b=true then x.bind k else d)=some r): ∃y,(b=true->x=some y/\k y=some r)/\(b=false->d=some r):=by
 cases b with
 |true=>obtain⟨y,Y,H⟩:=bs (ct h rfl);exact⟨y,fun _=>⟨Y,H⟩,fun e=>(by cases e)⟩
 |false=>exact⟨default,fun e=>(by cases e),fun _=>cf h rfl⟩

def cC{α β:Type}(p:Rp α)(q:Rp β):Rp (α×β) where
 sz:=p.sz+q.sz
 agg:=true
 rc:=fun S cs x=> ∃a b,cs=a++b/\p.rc S a x.1/\q.rc S b x.2
 mono:=fun h ⟨a,b,e,Y,H⟩=>⟨a,b,e,p.mono h Y,q.mono h H⟩
 len:=fun⟨a,b,e,Y,H⟩=>by rw [e,hT,p.len Y,q.len H]
 one:=fun⟨a,b,e,Y,H⟩ c hc=>by
  rw [e]at hc
  rcases te.1 hc with h|h
  ·exact p.one Y c h
  ·exact q.one H c h
 sc:=fun h=>by cases h
def lO{α β:Type}(p:Rp α)(f:β->α):Rp β where
 sz:=p.sz
 agg:=true
 rc:=fun S cs x=>p.rc S cs (f x)
 mono:=fun h k=>p.mono h k
 len:=fun h=>p.len h
 one:=fun h=>p.one h
 sc:=fun h=>by cases h
def cN{p:Rp α}{f:β->α}:jE (lO p f) 0 p f:=fun S cs x h=>by
 have h' :p.rc S cs (f x):=h
 have hl:=p.len h'
 rw [q6,<-hl,xE];exact h'
variable{γ:Type}
def dR{p:Rp α}{r:Rp γ}{get:γ->α×β}(h:jE r off (cC p q) get):jE r off p (fun x=>(get x).1):=fun S cs x k=>by
 obtain⟨a,b,e,Y,H⟩:=h S cs x k
 have hl:=p.len Y
 have hl2:=q.len H
 have:(cs.drop off).take p.sz=a:=by
  have e2:=congrArg (List.take p.sz) e
  rw [q5,qx (by show p.sz<=p.sz+q.sz;omega),<-hl,List.take_left]at e2
  rw [<-hl];exact e2
 rw [this];exact Y
def aJ{p:Rp α}{r:Rp γ}{off' :Nat}{get:γ->α×β}(h:jE r off (cC p q) get)(ho:off' =off+p.sz):jE r off' q (fun x=>(get x).2):=fun S cs x k=>by
 obtain⟨a,b,e,Y,H⟩:=h S cs x k
 have hl:=p.len Y
 have hl2:=q.len H
 have:(cs.drop off').take q.sz=b:=by
  have e2:=congrArg (List.drop p.sz) e
  rw [td,lW,<-hl,List.drop_left]at e2
  rw [ho,<-hl,<-e2]
  congr 1
  show q.sz=p.sz+q.sz-a.length
  omega
 rw [this];exact H

section
variable{E:En}
def E2{op:Op}{ty:TypeId}(hj:(ops[j]?).bind (·.dst)=some gs)(hgs:Nat.blt gs E.N.n=true)(Z:bu G gs=some (X rB b))(hd:Nat.blt d E.N.n=true)(h:b=true->bJ E O G ⟨some d,op,ty,pos,after,some (j,true)⟩ t)(k:RG E ops Q rest O ((d,iI b t)::G)):RG E ops Q (⟨some d,op,ty,pos,after,some (j,true)⟩::rest) O G:=by
 have e:(true&&(b==true))=b:=by cases b<;>rfl
 exact xr hj hgs (nG Z) hd (by rw [e];exact h) (by rw [e];exact k)
def E3{op:Op}{ty:TypeId}(hj:(ops[j]?).bind (·.dst)=some gs)(hgs:Nat.blt gs E.N.n=true)(Z:bu G gs=some (X rB b))(hd:Nat.blt d E.N.n=true)(h:(!b)=true->bJ E O G ⟨some d,op,ty,pos,after,some (j,false)⟩ t)(k:RG E ops Q rest O ((d,iI (!b) t)::G)):RG E ops Q (⟨some d,op,ty,pos,after,some (j,false)⟩::rest) O G:=by
 have e:(true&&(b==false))= !b:=by cases b<;>rfl
 exact xr hj hgs (nG Z) hd (by rw [e];exact h) (by rw [e];exact k)
def hG{c:Bool}{op:Op}{ty:TypeId}(hj:(ops[j]?).bind (·.dst)=some gs)(hgs:Nat.blt gs E.N.n=true)(Z:bu G gs=some (iI c (X rB b)))(hd:Nat.blt d E.N.n=true)(h:(c&&b)=true->bJ E O G ⟨some d,op,ty,pos,after,some (j,true)⟩ t)(k:RG E ops Q rest O ((d,iI (c&&b) t)::G)):RG E ops Q (⟨some d,op,ty,pos,after,some (j,true)⟩::rest) O G:=by
 have e:(c&&(b==true))=(c&&b):=by cases b<;>rfl
 exact xr hj hgs (vZ Z) hd (by rw [e];exact h) (by rw [e];exact k)
def kV{c:Bool}{op:Op}{ty:TypeId}(hj:(ops[j]?).bind (·.dst)=some gs)(hgs:Nat.blt gs E.N.n=true)(Z:bu G gs=some (iI c (X rB b)))(hd:Nat.blt d E.N.n=true)(h:(c&& !b)=true->bJ E O G ⟨some d,op,ty,pos,after,some (j,false)⟩ t)(k:RG E ops Q rest O ((d,iI (c&& !b) t)::G)):RG E ops Q (⟨some d,op,ty,pos,after,some (j,false)⟩::rest) O G:=by
 have e:(c&&(b==false))=(c&& !b):=by cases b<;>rfl
 exact xr hj hgs (vZ Z) hd (by rw [e];exact h) (by rw [e];exact k)
def bN{l:List Oper}{need:gJ}(Z:o.guard=some (j,true))(hj:((l.toArray)[j]?).bind (·.dst)=some gs)(hgs:Nat.blt gs E.N.n=true)(V:bu need gs=some (X rB b))(h:b=true->bJ E O need o t):bG E O l.toArray need o (iI b t):=by
 have e:(true&&(b==true))=b:=by cases b<;>rfl
 have:=ta (t:=t) Z hj hgs (nG (E:=E) V) (by rw [e];exact h)
 rwa [e]at this
def jq{l:List Oper}{need:gJ}(Z:o.guard=some (j,false))(hj:((l.toArray)[j]?).bind (·.dst)=some gs)(hgs:Nat.blt gs E.N.n=true)(V:bu need gs=some (X rB b))(h:(!b)=true->bJ E O need o t):bG E O l.toArray need o (iI (!b) t):=by
 have e:(true&&(b==false))= !b:=by cases b<;>rfl
 have:=ta (t:=t) Z hj hgs (nG (E:=E) V) (by rw [e];exact h)
 rwa [e]at this
def xo{a:Bool}(h:a=true)(k:b=true):(a&&b)=true:=by rw [h,k];rfl
def sw{a:Bool}(h:a=false):(!a)=true:=by rw [h];rfl
def pV{c:Operand}{x y:Code}(V:aD E.N G c (X rB b))(h:b=true)(I:CG E Q x O G):CG E Q (.cond c x y) O G:=lJ V (fun _=>I) (fun e=>by rw [h]at e;cases e)
def pW{c:Operand}{x y:Code}(V:aD E.N G c (X rB b))(h:b=false)(hy:CG E Q y O G):CG E Q (.cond c x y) O G:=lJ V (fun e=>by rw [h]at e;cases e) (fun _=>hy)
end
def Ij [Inhabited α]{x:Option α}{k:α->Option β}{r:β}(h:b=true->x.bind k=some r): ∃y,b=true->x=some y/\k y=some r:=by
 cases b with
 |true=>obtain⟨y,Y,H⟩:=bs (h rfl);exact⟨y,fun _=>⟨Y,H⟩⟩
 |false=>exact⟨default,fun e=>(by cases e)⟩
section
variable{E:En}{ty:TypeId}
def ll{c:Operand}{q:Bool}(hc:aD E.N G c (X rB b))(I:b=true->aD E.N G x (X rB q)):bJ E O G ⟨dst,.pick c x (.const (.bool false)),ty,pos,after,g⟩ (X rB (b&&q)):=by
 refine tA hc (fun h=>?_) (fun h=>?_)
 ·subst h;exact I rfl
 ·subst h;exact hB
def oh{c:Operand}{q:Bool}(hc:aD E.N G c (X rB b))(I:b=false->aD E.N G x (X rB q)):bJ E O G ⟨dst,.pick c (.const (.bool true)) x,ty,pos,after,g⟩ (X rB (b||q)):=by
 refine tA hc (fun h=>?_) (fun h=>?_)
 ·subst h;exact hB
 ·subst h;exact I rfl
def ef{c:Operand}{q t:Bool}(hc:aD E.N G c (X rB b))(I:b=true->aD E.N G x (X rB q))(e1:b=true->some q=some t)(e0:b=false->some false=some t):bJ E O G ⟨dst,.pick c x (.const (.bool false)),ty,pos,after,g⟩ (X rB t):=by
 refine tA hc (fun h=>?_) (fun h=>?_)
 ·rw [<-so (e1 h)];exact I h
 ·rw [<-so (e0 h)];exact hB
def jk{c:Operand}{q t:Bool}(hc:aD E.N G c (X rB b))(I:b=false->aD E.N G x (X rB q))(e1:(!b)=true->some q=some t)(e0:(!b)=false->some true=some t):bJ E O G ⟨dst,.pick c (.const (.bool true)) x,ty,pos,after,g⟩ (X rB t):=by
 refine tA hc (fun h=>?_) (fun h=>?_)
 ·rw [<-so (e0 (by rw [h];rfl))];exact hB
 ·rw [<-so (e1 (by rw [h];rfl))];exact I h
def zG(hi:ts[i]? =some t)(I:aD E.N G x (tT ts)):bJ E O G ⟨dst,.extract x i,ty,pos,after,g⟩ t:=
 .of_pure fun a w S _ _ M=>by
  obtain⟨vs,Y,H⟩:=I S a M
  obtain⟨v,h3,h4⟩:=H.at_ i t hi
  exact⟨v,by simp [execOp,Y,Instr.extract,h3],h4⟩
def wQ{k:IntKind}{m n:Int}(I:aD E.N G x (X (rI k) m))(hy:aD E.N G y (X (rI k) n)):bJ E O G ⟨dst,.call ⟨.builtin .min,#[x,y],ats⟩,ty,pos,after,g⟩ (X (rI k) (min m n)):=
 .of_pure fun a w S _ _ M=>by
  have Y:a.eval x= .int k m:=dG.1 (I S a M)
  have H:a.eval y= .int k n:=dG.1 (hy S a M)
  refine⟨.int k (if n<m then n else m),by simp [execOp,resolve,invoke,builtin,Builtin.min_,Builtin.min2,Y,H],dG.2 ?_⟩
  congr 1
  rw [Int.min_def]
  split<;>split<;>omega

def jW(P:Program){α β:Type}(args:α->List Ty)(res:β->Ty)(f:α->Option β):Ty where
 p:=fun S v=> ∃fid cap,v= .func (.func fid) #[] cap/\ah P fid=true/\ ∀x y,f x=some y-> ∀w S' vs,kT S S' ->gc w S' ->pm S' (args x) vs->
  Calls P fid (vs.toArray++cap) w fun e w' => ∃v S'',e= .returned v/\ez la w S' w' S'' /\gc w' S'' /\(res y).p S'' v
 mono:=fun h ⟨f,cap,e,hc,k⟩=>⟨f,cap,e,hc,fun x y hxy w S' vs hle=>k x y hxy w S' vs (SH.le_trans h hle)⟩
def GM{N:Fr}{P:Program}{f:α->Option β}{fid:FuncId}(hc:ah P fid=true)(hs: ∀x y,f x=some y->cj P fid (args x) (res y)):aD N G (.func fid) (jW P args res f):=fun S a _=>
 ⟨fid,#[],rfl,hc,fun x y h w S' vs _ hsat hv=>by simpa using hs x y h w S' vs hsat hv⟩
def pm.append: ∀{ts us:List Ty} {vs ws:List Value},pm S ts vs->pm S us ws->pm S (ts++us) (vs++ws)
 |[],_,[],_,_,h=>h
 |_::_,_,_::_,_,⟨Y,H⟩,h=>⟨Y,pm.append H h⟩
def nB{f:α->Option β}{fid:FuncId}{caps:List Operand}{cts:List Ty}(hc:ah E.P fid=true)(hcap:ew E.N G caps cts)(hs: ∀x y,f x=some y->cj E.P fid (args x++cts) (res y)):bJ E O G ⟨dst,.makeFunc (.func fid) #[] caps.toArray,ty,pos,after,g⟩ (jW E.P args res f):=
 .of_pure fun a w S _ _ M=>by
  refine⟨.func (.func fid) #[] (caps.map a.eval).toArray,by simp [execOp,Instr.makeFunc],fid,_,rfl,hc,fun x y h w' S' vs hle hsat hv=>?_⟩
  have hcv:=(hcap.tys M).mono hle
  simpa using hs x y h w' S' _ hsat (hv.append hcv)
def mZ{f:α->Option β}{fo:Operand}{x:α}{y:β}{xs:List Operand}(hfo:aD E.N G fo (jW E.P args res f))(h:f x=some y)(I:ew E.N G xs (args x)):
  bJ E O G ⟨dst,.call ⟨.value fo,xs.toArray,ats⟩,ty,pos,after,g⟩ (res y):=fun a w S hS _ hF=>by
 obtain⟨fid,cap,e,hc,hs⟩:=hfo S a hF
 have hr:(execOp a.eval ⟨dst,.call ⟨.value fo,xs.toArray,ats⟩,ty,pos,after,g⟩).run E.P w= .ok (.enter fid ((xs.map a.eval).toArray++cap)) w:=by
  simp [execOp,resolve,e,Deferred.ofValue,invoke,dN hc]
 refine⟨fun c h=>(by cases h),?_⟩
 rw [hr]
 exact(hs x y h w S _ (SH.le_refl _) hS (I.tys hF)).mono fun e w' ⟨v,S',he,Y,H,h3⟩=>⟨v,he,v,S',rfl,Y,H,h3⟩
end
def cj.of{P:Program}{N:Nat}(M:P.funcs[f]? =some fn)(V:fn.body=some c)(hN:fn.ntmps=N)(hn:Nat.ble ts.length N=true)(h: ∀w0 S0,CG ⟨P,⟨N,[]⟩,la,w0,S0,none⟩ (bodyPost P fn (vD ⟨P,⟨N,[]⟩,la,w0,S0,none⟩ t)) c [] (ol 0 ts)):cj P f ts t:=by
 subst hN
 exact xq M V (lL hn) h
def nn{α:Type _}{r:α}(h:(none:Option α)=some r):False:=by cases h
def pl{N:Fr}:aD N G (.const (.slice none 0 0)) (tV (aM none 0 0)):=fun _ _ _=>rfl
def mG:Nat:=2^64
section
variable{E:En}{ty:TypeId}
def zC(l:Option Nat)(cap n:Nat)(h:l=none->n=0): ∃a c,aM l cap n= .slice a n c:=by
 cases l with
 |none=>rw [h rfl];exact⟨none,0,rfl⟩
 |some b=>exact⟨_,cap,rfl⟩
def dD{r:Rp α}{n:Nat}{t:TypeId}(D:E.P.underlying t=some (.slice e))(hm:gI mm r aT l cap xs∈O)(I:aD E.N G x (tV (aM l cap n)))(hn:n=xs.length:=by rfl):
  bJ E O G ⟨dst,.call ⟨.builtin .len,#[x],#[t]⟩,ty,pos,after,g⟩ (X (rI .i64) (n:Int)):=
 .of_pure fun a w S _ ho M=>by
  have Y:a.eval x=aM l cap n:=I S a M
  have H:=(ho.mem _ hm).1
  obtain⟨ad,c,h3⟩:=zC l cap n (fun e=>by subst e;obtain⟨_,h4,_⟩:=H;rw [hn];exact h4.1)
  refine⟨.int .i64 n,?_,dG.2 rfl⟩
  simp [execOp,resolve,invoke,builtin,Builtin.len_,gy D,Y,h3,goInt]
end

structure DE(P:Program){α:Type} [DecidableEq α](t:TypeId)(r:Rp α):Prop where
 guard:P.eqGuardType P.depth t=false
 run: ∀(S:SH) (cs ds:List Value) (x y:α) (d:Nat) (w:World),r.rc S cs x->r.rc S ds y->(Op.equalIn (d+20) t (r.val cs) (r.val ds)).run P w= .ok (decide (x=y)) w
section
variable{E:En}{ty:TypeId}
def s4{P:Program}{t:TypeId}(h:P.eqGuardType P.depth t=false){op:BinOp}{x y:Operand}{u v:Array Value}{w:World}:(eqGuard op t x y (.agg u) (.agg v)).run P w= .ok () w:=by
 unfold eqGuard
 cases op<;>first|rfl|simp [h]
def mz{r:Rp α}(h:r.agg=true)(cs:List Value):r.val cs= .agg cs.toArray:=by unfold Rp.val;rw [eF h]
def p4 [DecidableEq α]{r:Rp α}{m n:α}(he:DE E.P xt r)(I:aD E.N G x (X r m))(hy:aD E.N G y (X r n))(ha:r.agg=true:=by rfl):bJ E O G ⟨dst,.binOp .eql xt x y yt,ty,pos,after,g⟩ (X rB (decide (m=n))):=
 .of_pure fun a w S _ _ M=>by
  obtain⟨cs,Y,H⟩:=I S a M
  obtain⟨ds,h3,h4⟩:=hy S a M
  refine⟨.bool (decide (m=n)),?_,fz.2 rfl⟩
  have hr:=he.run S cs ds m n 9980 w H h4
  have Z:= @s4 E.P xt he.guard .eql x y cs.toArray ds.toArray w
  rw [mz ha,mz ha]at hr
  simp only [execOp,Y,h3,mz ha,ow,Z,pp,binOp,Op.equal,Op.maxDepth]
  rw [show(10000:Nat)=9980+20 from rfl,hr]
  simp
def wO [DecidableEq α]{r:Rp α}{m n:α}(he:DE E.P xt r)(I:aD E.N G x (X r m))(hy:aD E.N G y (X r n))(ha:r.agg=true:=by rfl):bJ E O G ⟨dst,.binOp .neq xt x y yt,ty,pos,after,g⟩ (X rB (!decide (m=n))):=
 .of_pure fun a w S _ _ M=>by
  obtain⟨cs,Y,H⟩:=I S a M
  obtain⟨ds,h3,h4⟩:=hy S a M
  refine⟨.bool (!decide (m=n)),?_,fz.2 rfl⟩
  have hr:=he.run S cs ds m n 9980 w H h4
  have Z:= @s4 E.P xt he.guard .neq x y cs.toArray ds.toArray w
  rw [mz ha,mz ha]at hr
  simp only [execOp,Y,h3,mz ha,ow,Z,pp,binOp,Op.equal,Op.maxDepth]
  rw [show(10000:Nat)=9980+20 from rfl,hr]
  simp
end

def nA{base:Nat}{B:Nat->Prop}(h:cF base B w S O)(k:ez la w S w' S'){e:OE}(he:e.p w' S')(hn: ∀b,e.fp b->w.heap.size<=b)(V:base<=w.heap.size:=by first|assumption|exact St.base_le (by assumption)):cF base B w' S' (e::O):=
 ⟨⟨he,fun b hb' => .inl (ve V (hn b hb'))⟩,fun f M b hb' hfb=>by
  have:=f.here (cF.mem h f M).1 b hfb
  have:=hn b hb'
  omega,h.ext0 k⟩
def ev(P:Program)(f:FuncId)(ts:List Ty)(mm:Bool){α:Type}(r:Rp α)(aT:TypeId)(xs:List α):Prop:=
 ∀w S vs,gc w S->pm S ts vs->Calls P f vs.toArray w fun e w' => ∃l cap S',e= .returned (aM l cap xs.length)/\ez la w S w' S' /\gc w' S' /\(gI mm r aT l cap xs).holds w.heap.size la w' S'
def zu{r:Rp α}(h:(gI mm r aT l cap xs).holds w.heap.size la w' S')(he:ez la w S w' S')(hs:gc w' S'):
  ∃S'',ez la w S w' S'' /\gc w' S'' /\(X (eY r) xs).p S'' (aM l cap xs.length):=by
 have st:St ⟨default,⟨0,[]⟩,la,w,S,none⟩ [gI mm r aT l cap xs] [] ⟨#[],[]⟩ w' S' :=⟨he,hs,⟨h,fun _ M=>(by cases M),trivial⟩,⟨rfl,rfl,fun _ _ h=>(by simp [bu]at h)⟩⟩
 obtain⟨S'',Y,H⟩:=st.settle
 exact⟨S'',Y.ext,Y.sat,H⟩
def ev.spec{P:Program}{r:Rp α}(h:ev P f ts mm r aT xs):cj P f ts (X (eY r) xs):=fun w S vs hs hv=>
 (h w S vs hs hv).mono fun e w' ⟨l,cap,S',he,Y,H,h3⟩=>by
  obtain⟨S'',h4,h5,h6⟩:=zu h3 Y H
  exact⟨_,S'',he,h4,h5,h6⟩
def Gs(E:En)(mm:Bool){α:Type}(r:Rp α)(aT:TypeId)(xs:List α):Ending->World->Prop:=fun e w' => ∃l cap S',e= .returned (aM l cap xs.length)/\ez E.B E.w0 E.S0 w' S' /\gc w' S' /\(gI mm r aT l cap xs).holds E.w0.heap.size E.B w' S'
def ev.of{P:Program}{N:Nat}{r:Rp α}(M:P.funcs[f]? =some fn)(V:fn.body=some c)(hN:fn.ntmps=N)(hn:Nat.ble ts.length N=true)(h: ∀w0 S0,CG ⟨P,⟨N,[]⟩,la,w0,S0,none⟩ (bodyPost P fn (Gs ⟨P,⟨N,[]⟩,la,w0,S0,none⟩ mm r aT xs)) c [] (ol 0 ts)):ev P f ts mm r aT xs:=by
 subst hN
 intro w S vs hs hv
 exact jo.1 (callsIn_of_wp (F:=fw none) (n:=0) M V trivial (h w S _ w S ⟨ez.refl _ _ _,hs,trivial,lv hv _ (lL hn)⟩))
section
variable{E:En}
def f8{P:Program}{N:Nat}{B:Nat->Prop}{w0:World}{S0:SH}{r:Rp α}{n:Nat}(hr:fn.results= #[.tmp k])(hk:bu G k=some (tV (aM l cap n)))(hn:n=xs.length:=by rfl):
  AT ⟨P,⟨N,[]⟩,B,w0,S0,none⟩ (bodyPost P fn (Gs ⟨P,⟨N,[]⟩,B,w0,S0,none⟩ mm r aT xs)) .ret (gI mm r aT l cap xs::O) G:=fun a w S st=>by
 subst hn
 have hv:a.tmps.getD k undef=aM l cap xs.length:=st.facts.at_ k _ hk
 exact⟨st.facts.defers,_,ir P fn k hr _ _,l,cap,S,by rw [hv],st.ext,st.sat,st.own.1⟩
def AW{P:Program}{N:Nat}{B:Nat->Prop}{w0:World}{S0:SH}{r:Rp α}(hr:fn.results= #[.tmp k])(hk:bu G k=some (tO r l cap xs)):
  AT ⟨P,⟨N,[]⟩,B,w0,S0,none⟩ (bodyPost P fn (Gs ⟨P,⟨N,[]⟩,B,w0,S0,none⟩ true r aT xs)) .ret (tip r aT l cap xs::O) G:=fun a w S st=>by
 have hv:a.tmps.getD k undef=aM l cap xs.length:=(st.facts.at_ k _ hk).1
 exact⟨st.facts.defers,_,ir P fn k hr _ _,l,cap,S,by rw [hv],st.ext,st.sat,st.own.1⟩
section
variable{ty:TypeId}
def wo{xs:List Operand}{r:Rp α}{u:Nat->Option Nat->Ty}(hc:ah E.P f=true)(hs:ev E.P f ts mm r aT ys)(I:ew E.N G xs ts)(hd:Nat.blt d E.N.n=true)(hu: ∀l cap w0 S,(gI mm r aT l cap ys).p w0 S->(u cap l).p S (aM l cap ys.length))(k: ∀l cap,RG E ops Q rest (gI mm r aT l cap ys::O) ((d,u cap l)::G)):
  RG E ops Q (⟨some d,.call ⟨.value (.func f),xs.toArray,ats⟩,ty,pos,after,none⟩::rest) O G:= .of rfl fun a w S st=>by
 have hr:(execOp a.eval ⟨some d,.call ⟨.value (.func f),xs.toArray,ats⟩,ty,pos,after,none⟩).run E.P w= .ok (.enter f (xs.map a.eval).toArray) w:=by
  simp [execOp,resolve,Act.eval,Deferred.ofValue,invoke,dN hc]
 refine⟨fun c h=>(by cases h),?_⟩
 rw [hr]
 refine(hs w S _ st.sat (I.tys st.facts)).mono fun e w' ⟨l,cap,S',he,Y,H,h3⟩=>⟨_,he,?_⟩;refine k l cap _ _ S' ⟨st.ext.step0 Y,H,nA st.own Y h3.1 (fun b V=>(h3.2 b V).resolve_right id) st.base_le,(st.facts.mono Y.keep).put hd (hu l cap w' S' h3.1)⟩
def Dr{xs:List Operand}{r:Rp α}(hc:ah E.P f=true)(hs:ev E.P f ts false r aT ys)(I:ew E.N G xs ts)(hd:Nat.blt d E.N.n=true)(k: ∀l cap,RG E ops Q rest (dX r aT l cap ys::O) ((d,tV (aM l cap ys.length))::G)):
  RG E ops Q (⟨some d,.call ⟨.value (.func f),xs.toArray,ats⟩,ty,pos,after,none⟩::rest) O G:=wo (u:=fun cap l=>tV (aM l cap ys.length)) hc hs I hd (fun _ _ _ _ _=>rfl) k
def yU{xs:List Operand}{r:Rp α}(hc:ah E.P f=true)(hs:ev E.P f ts true r aT ys)(I:ew E.N G xs ts)(hd:Nat.blt d E.N.n=true)(k: ∀l cap,RG E ops Q rest (tip r aT l cap ys::O) ((d,tO r l cap ys)::G)):
  RG E ops Q (⟨some d,.call ⟨.value (.func f),xs.toArray,ats⟩,ty,pos,after,none⟩::rest) O G:=wo (u:=fun cap l=>tO r l cap ys) hc hs I hd (fun _ _ _ _ h=>⟨rfl,jV h⟩) k
def eJ{r:Rp α}{xs:List Operand}{t:TypeId}{n sz:Nat}{agg:Bool}(D:E.P.underlying t=some (.slice aT))(ti:TI E.P aT sz bytes agg z)(hsz:r.sz=sz)(h0:Nat.blt 0 sz=true)(hp:parts=qu 0 xs)(hn:n=ys.length)(V:Nat.ble (n*sz) 16777216=true)(I:ew E.N G xs (ys.map (X r)))(hd:Nat.blt d E.N.n=true)(k: ∀l cap,RG E ops Q rest (dX r aT l cap ys::O) ((d,tV (aM l cap ys.length))::G)):
  RG E ops Q (⟨some d,.buildSlice t n parts.toArray,ty,pos,after,none⟩::rest) O G:= .of rfl fun a w S st=>by
 obtain⟨cs,hc,hr⟩:=pB D ti hsz hn V (I.tys st.facts) w
 subst hsz
 subst hp
 have hb' :=lL V
 have h0' :0<r.sz:=by simpa [pc] using h0
 have hnle:n<=n*r.sz:=Nat.le_mul_of_pos_right n h0'
 have hcl:=ju hc
 obtain⟨he,hs',hno⟩:=eX (w:=w) (.cells cs.toArray aT (0,0)) st.sat
 have hrun:(execOp a.eval ⟨some d,.buildSlice t n (qu 0 xs).toArray,ty,pos,after,none⟩).run E.P w= .ok (.value (.slice (some ⟨w.heap.size,0,none⟩) n n)) (w.alloc (.cells cs.toArray aT (0,0))):=by
  simp only [execOp,ow,hr,pp,Sem.run_pure]
 refine⟨fun c h=>(by cases h),?_⟩
 rw [hrun]
 refine k (some w.heap.size) n _ _ S ⟨st.ext.step0 he,hs',nA st.own he ⟨cs,⟨cs.toArray,wv w _,by omega,by simp only [maxLen];omega,by simp [hcl,hn],by simp [<-hcl]⟩,hc,fun b V=>by rw [<-my V];exact hno⟩ (fun b V=>tP (my V)) st.base_le,st.facts.put hd ?_⟩
 ·show _=aM _ _ _
  rw [<-hn];rfl
def pR{r:Rp α}{t:TypeId}(D:E.P.underlying t=some (.slice e))(I:aD E.N G x (X (eY r) xs))(hd:Nat.blt d E.N.n=true)(k: ∀b,(b=true->xs=[])->RG E ops Q rest O ((d,X rB b)::G)):RG E ops Q (⟨some d,.binOp .eql t x (.const (.slice none 0 0)) yt,ty,pos,after,none⟩::rest) O G:= .of rfl fun a w S st=>by
 obtain⟨ad,cap,Y,_,_,H⟩:=iS.1 (I S a st.facts)
 have hrun:(execOp a.eval ⟨some d,.binOp .eql t x (.const (.slice none 0 0)) yt,ty,pos,after,none⟩).run E.P w= .ok (.value (.bool ad.isNone)) w:=by
  have h3:(Op.equal t (.slice ad xs.length cap) (.slice none 0 0)).run E.P w= .ok ad.isNone w:=rk fun d=>by
   cases ad<;>simp [Op.equalIn,gy D]
  have hcn:a.eval (.const (.slice none 0 0))= .slice none 0 0:=rfl
  simp [execOp,Y,hcn,eqGuard,binOp,h3]
 refine⟨fun c h=>(by cases h),?_⟩
 rw [hrun]
 refine k ad.isNone (fun e=>?_) _ _ S (st.step (ez.refl _ _ _) st.sat hd (fz.2 rfl))
 rcases H with H|⟨b,off,c,aT,fr,e1,_⟩
 ·exact H
 ·subst e1;cases e
end
end

def aq(b off:Nat):Value:= .pointer (some ⟨b,off,none⟩)
def bx{α:Type}(r:Rp α)(aT:TypeId)(b:Nat)(x:α):OE where
 fp:=fun k=>k=b
 p:=fun w S=>S b=none/\ ∃c,w.heap[b]? =some (.cells c aT (0,0))/\r.rc S c.toList x
 here:=by
  intro w S h k hk
  subst hk
  obtain⟨Y,c,H,_⟩:=h
  exact(qz.1 H).1
 kept:=by
  intro C w w' S S' h k hC
  obtain⟨Y,c,H,h3⟩:=h
  have hlt:=(qz.1 H).1
  exact⟨by rw [k.old b hlt (hC b rfl)];exact Y,c,by rw [k.heap b hlt (hC b rfl)];exact H,r.mono k.keep h3⟩
def rV:Rp Value where
 sz:=1
 agg:=false
 rc:=fun _ cs v=>cs=[v]/\v.oneCell' =true
 mono:=fun _ h=>h
 len:=fun h=>by rw [h.1];rfl
 one:=fun h c hc=>by rw [h.1]at hc;simp at hc;subst hc;exact h.2
 sc:=fun _=>rfl
def mA{u:Value}:(X rV u).p S v↔v=u/\u.oneCell' =true:=by
 constructor
 ·rintro⟨cs,rfl,Y,H⟩;subst Y;exact⟨rfl,H⟩
 ·rintro⟨rfl,h⟩;exact⟨[v],rfl,rfl,h⟩
def ff{α β:Type}(r:Rp α)(off:Nat)(q:Rp β)(set:α->β->α):Prop:= ∀S cs x ds y,r.rc S cs x->q.rc S ds y->r.rc S (cs.take off++ds++cs.drop (off+q.sz)) (set x y)
section
variable{E:En}{e:Exit}
def St.settleB{r:Rp α}{b:Nat}{x:α}(h:St E (bx r aT b x::O) G a w S)(hk:bu G k=some (tV (aq b 0))): ∃S',St E O ((k,bp r x)::G) a w S' :=by
 obtain⟨⟨hn,cur,h3,h4⟩,_⟩:=h.own.1
 obtain⟨h8,hle,_,_⟩:=oF h rfl h3 (mX _) hn
 have hv:a.tmps.getD k undef=aq b 0:=h.facts.at_ k _ hk
 refine⟨_,h8.cons ⟨b,0,cur,aT,(0,0),hv,by simp [SH.set],?_⟩⟩
 have hl:cur.size=r.sz:=by have:=r.len h4;simpa using this
 have:=r.mono hle h4
 rw [q6,kC (by simp [hl])];exact this
def aB{r:Rp α}{b:Nat}{x:α}(k:Nat)(hk:bu G k=some (tV (aq b 0)))(h:RG E ops Q rest O ((k,bp r x)::G)):RG E ops Q rest (bx r aT b x::O) G:=
 fun a w _ st=>let⟨S',st'⟩:=st.settleB hk;h a w S' st'
def aG{r:Rp α}{b:Nat}{x:α}(k:Nat)(hk:bu G k=some (tV (aq b 0)))(h:AT E Q e O ((k,bp r x)::G)):AT E Q e (bx r aT b x::O) G:=
 fun a w _ st=>let⟨S',st'⟩:=st.settleB hk;h a w S' st'
section
variable{ty:TypeId}
def av{r:Rp α}{x:α}{sz:Nat}{agg:Bool}(ti:TI E.P aT sz bytes agg z)(I: ∀S,r.rc S z x)(hd:Nat.blt d E.N.n=true)(k: ∀b,RG E ops Q rest (bx r aT b x::O) ((d,tV (aq b 0))::G)):RG E ops Q (⟨some d,.alloc aT,ty,pos,after,none⟩::rest) O G:= .of rfl fun a w S st=>by
 obtain⟨zv,hzr,hzc⟩:=ti.zero w
 obtain⟨he,hs',hno⟩:=eX (w:=w) (.cells z.toArray aT (0,0)) st.sat
 have hrun:(execOp a.eval ⟨some d,.alloc aT,ty,pos,after,none⟩).run E.P w= .ok (.value (aq w.heap.size 0)) (w.alloc (.cells z.toArray aT (0,0))):=by
  simp [execOp,Instr.alloc,hzr,newVar,newRow,hzc,aq]
 refine⟨fun c h=>(by cases h),?_⟩
 rw [hrun]
 exact k w.heap.size _ _ S ⟨st.ext.step0 he,hs',nA st.own he ⟨hno,z.toArray,wv w _,by simpa using I S⟩ (fun b V=>tP V.symm) st.base_le,st.facts.put hd rfl⟩
def nO{r:Rp α}{v:α}(I:aD E.N G x (X r v))(hd:Nat.blt d E.N.n=true)(k: ∀b,RG E ops Q rest (bx r aT b v::O) ((d,tV (aq b 0))::G)):RG E ops Q (⟨some d,.box aT x,ty,pos,after,none⟩::rest) O G:= .of rfl fun a w S st=>by
 obtain⟨cs,hv,hc⟩:=I S a st.facts
 obtain⟨he,hs',hno⟩:=eX (w:=w) (.cells cs.toArray aT (0,0)) st.sat
 have hrun:(execOp a.eval ⟨some d,.box aT x,ty,pos,after,none⟩).run E.P w= .ok (.value (aq w.heap.size 0)) (w.alloc (.cells cs.toArray aT (0,0))):=by
  simp [execOp,Instr.box,newVar,newRow,hv,od hc,aq]
 refine⟨fun c h=>(by cases h),?_⟩
 rw [hrun]
 exact k w.heap.size _ _ S ⟨st.ext.step0 he,hs',nA st.own he ⟨hno,cs.toArray,wv w _,by simpa using hc⟩ (fun b V=>tP V.symm) st.base_le,st.facts.put hd rfl⟩
def kq{base:Nat}{B:Nat->Prop}{b:Nat}(hs:gc w S)(f f' :OE)(h:cF base B w S (f::O))(M: ∀k,f.fp k↔k=b)(hf' : ∀k,f'.fp k↔k=b)(Z:w'.os=w.os/\w'.tape=w.tape/\w'.output=w.output/\w'.heap.size=w.heap.size/\w.drawn<=w'.drawn)(ho: ∀k,k≠b->w'.heap[k]? =w.heap[k]?)(hp:f'.p w' S)(hno:S b=none):ez (fun k=>k=b) w S w' S/\gc w' S/\cF base B w' S (f' ::O):=by
 have hext:ez (fun k=>k=b) w S w' S:=⟨Z.1,Z.2.1,Z.2.2.1,Z.2.2.2.2,by omega,fun k _ hk=>ho k hk,SH.le_refl _,fun _ _ _=>rfl⟩
 refine⟨hext,hs.same fun k o hk=>?_,⟨hp,fun k hk=>h.1.2 k ((M k).2 ((hf' k).1 hk))⟩,fun g hgm k hk=>h.2.1 g hgm k ((M k).2 ((hf' k).1 hk)),h.2.2.ext hext fun g hgm k hk hkb=>h.2.1 g hgm k ((M k).2 hkb) hk⟩
 have hne:k≠b:=fun e=>by subst e;rw [hno]at hk;cases hk
 exact ho k hne
def fk{P:Program}{q:Rp α}{sz:Nat}{agg:Bool}(ti:TI P U sz bytes agg z)(hsz:q.sz=sz){ds:List Value}{y:α}(hy:q.rc S ds y){b:Nat}{cur:Array Value}(Z:w.heap[b]? =some (.cells cur aT (0,0)))(hfit:off+q.sz<=cur.size):
  ∃w',(storeVar U ⟨b,off,none⟩ (q.val ds)).run P w= .ok () w' /\w'.os=w.os/\w'.tape=w.tape/\w'.output=w.output/\(w'.heap.size=w.heap.size/\w.drawn<=w'.drawn)/\w'.heap[b]? =some (.cells (cur.toList.take off++ds++cur.toList.drop (off+q.sz)).toArray aT (0,0))/\ ∀k,k≠b->w'.heap[k]? =w.heap[k]? :=by
 have hl:=q.len hy
 have hst:=run_storeCells_at P b off aT ds 0 cur w Z (by omega) (q.one hy)
 simp only [Nat.add_zero]at hst
 refine⟨w.setRow b (cur.toList.take off++ds++cur.toList.drop (off+ds.length)).toArray,?_,rfl,rfl,rfl,⟨?_,iZ _⟩,?_,fun k hk=>setRow_other w b k _ hk⟩
 ·generalize (cur.toList.take off++ds++cur.toList.drop (off+ds.length)).toArray=tD at hst ⊢
  simp only [storeVar,ow,ti.sizeOf,pp,od hy,AX,hl,hsz]
  simp only [ne_eq,not_true_eq_false,ov]
  simpa using hst
 ·simp [World.setRow]
 ·rw [setRow_heap w b cur _ aT _ Z,<-hl]
def cy{r:Rp α}{set:α->β->α}{x:α}{y:β}{b sz:Nat}{agg:Bool}{p v:Operand}(ti:TI E.P U sz bytes agg z)(hsz:q.sz=sz)(hset:ff r off q set)(hoff:Nat.ble (off+q.sz) r.sz=true)(hp:aD E.N G p (tV (aq b off)))(hv:aD E.N G v (X q y))(k:RG E ops Q rest (bx r aT b (set x y)::O) G):RG E ops Q (⟨none,.store U p v,ty,pos,after,none⟩::rest) (bx r aT b x::O) G:= .of rfl fun a w S st=>by
 have Y:a.eval p=aq b off:=hp S a st.facts
 obtain⟨ds,H,h3⟩:=hv S a st.facts
 obtain⟨⟨hno,cur,h5,h6⟩,_⟩:=st.own.1
 have hl:=r.len h6
 have hoff' :=lL hoff
 obtain⟨w',hr,e1,e2,e3,e4,e5,e6⟩:=fk ti hsz h3 h5 (off:=off) (by simp at hl;omega)
 have hrun:(execOp a.eval ⟨none,.store U p v,ty,pos,after,none⟩).run E.P w= .ok .skip w' :=by
  simp [execOp,Y,H,Instr.storeAt,aq,Instr.sureAddr,hr]
 refine⟨fun c h=>(by cases h),?_⟩
 rw [hrun]
 obtain⟨g1,g2,g3⟩:=kq (O:=O) st.sat (bx r aT b x) (bx r aT b (set x y)) st.own (fun _=>rX) (fun _=>rX) ⟨e1,e2,e3,e4.1,e4.2⟩ e6 ⟨hno,_,e5,by simpa using hset S _ _ _ _ h6 h3⟩ hno
 exact k _ _ S ⟨st.ext.step g1 (fun c hc=>st.own.1.2 c hc),g2,g3,st.facts⟩
def aa{r:Rp α}:ff r 0 r (fun _ y=>y):=fun S cs x ds y Y H=>by
 have hl:=r.len Y
 simpa [<-hl] using H
end
section
variable{ty:TypeId}
def vy{sz b o:Nat}{p:Operand}(M:co E.P aT i=some (off,sz))(h0:Nat.beq sz 0=false)(hp:aD E.N G p (tV (aq b o))):bJ E O G ⟨dst,.fieldAddr aT p i,ty,pos,after,g⟩ (tV (aq b (o+off))):=
 .of_pure fun a w S _ _ hF=>by
  have Y:a.eval p=aq b o:=hp S a hF
  obtain⟨fs,f,e1,e2,e3,e4⟩:=sn M
  have h0' :sz≠0:=fun e=>by subst e;simp at h0
  refine⟨aq b (o+off),?_,rfl⟩
  simp [execOp,Y,aq,Instr.fieldAt,gy e1,e2,Instr.sureAddr,fieldPlace,e4,h0',e3,fe]
def be{r:Rp α}{get:α->β}{x:α}{b sz:Nat}{agg:Bool}{p:Operand}(ti:TI E.P U sz bytes agg z)(hsz:q.sz=sz)(hag:q.agg=agg)(hget:jE r off q get)(hm:bx r aT b x∈O)(hp:aD E.N G p (tV (aq b off))):
  bJ E O G ⟨dst,.load U p,ty,pos,after,g⟩ (X q (get x)):=
 .of_pure fun a w S _ ho M=>by
  have Y:a.eval p=aq b off:=hp S a M
  obtain⟨⟨_,cur,h5,h6⟩,_⟩:=ho.mem _ hm
  have h7:=hget S _ _ h6
  refine⟨_,?_,_,rfl,h7⟩
  simp [execOp,Y,aq,Instr.loadAt,Instr.sureAddr,fa ti h5 hsz hag h7]
def bC{r:Rp α}:jE r 0 r (fun x=>x):=fun S cs x h=>by
 have hl:=r.len h
 simpa [<-hl] using h
end
end

def dy{p:Rp α}:ff (cC p q) 0 p (fun x y=>(y,x.2)):=fun S cs x ds y h k=>by
 obtain⟨a,b,e,Y,H⟩:=h
 have hl:=p.len Y
 refine⟨ds,b,?_,k,H⟩
 rw [e,<-hl];simp
def aK{p:Rp α}{s:Rp γ}{off' :Nat}{u:β->γ->β}(h:ff q off s u)(ho:off' =p.sz+off):ff (cC p q) off' s (fun x y=>(x.1,u x.2 y)):=fun S cs x ds y I hy=>by
 obtain⟨a,b,e,Y,H⟩:=I
 have hl:=p.len Y
 refine⟨a,b.take off++ds++b.drop (off+s.sz),?_,Y,h S b x.2 ds y H hy⟩
 rw [e,ho,<-hl,List.take_length_add_append,show a.length+off+s.sz=a.length+(off+s.sz)from by omega,List.drop_length_add_append]
 simp
def cG{p:Rp α}{q:Rp γ}{u:α->γ->α}{f:β->α}{set:β->γ->β}(h:ff p off q u)(M: ∀x y,f (set x y)=u (f x) y):ff (lO p f) off q set:=fun S cs x ds y I hy=>by
 show p.rc S _ (f (set x y))
 rw [M]
 exact h S cs (f x) ds y I hy
def kN(P:Program)(aT:TypeId):Option (List (Nat×Nat)):=
 match P.underlying aT with
 |some (.struct fs)=>fs.toList.mapM fun f=>(P.info? f.type).map fun q=>(f.offset,q.size)
 |_=>none
def uq{P:Program}: ∀(fs:List Field) (ps:List (Nat×Nat)) (w:World),fs.mapM (fun f=>(P.info? f.type).map fun q=>(f.offset,q.size))=some ps->
  (fs.mapM (fun f=>do pure (f.offset,<-sizeOf f.type):Field->Sem (Nat×Nat))).run P w= .ok ps w
 |[],ps,w,h=>by
  simp at h;subst h
  simp
 |f::fs,ps,w,h=>by
  simp only [List.mapM_cons]at h ⊢
  cases hq:P.info? f.type with
  |none=>simp [hq]at h
  |some q=>
   cases hr:fs.mapM (fun f=>(P.info? f.type).map fun q=>(f.offset,q.size))with
   |none=>simp [hq,hr]at h
   |some qs=>
    simp [hq,hr]at h
    subst h
    have ih:=uq fs qs w hr
    simp [sizeOf,typeInfo,hq]at ih ⊢
    simp [ih]
section
variable{E:En}{ty:TypeId}
def BP(E:En)(G:gJ){α:Type}(r:Rp α)(ps:List (Nat×Nat)):α->List (Nat×Operand)->α->Prop
 |x,[],y=>x=y
 |x,(i,o)::rest,y=> ∃(β:Type) (q:Rp β) (set:α->β->α) (off:Nat) (v:β),ps[i]? =some (off,q.sz)/\ff r off q set/\Nat.ble (off+q.sz) r.sz=true/\aD E.N G o (X q v)/\BP E G r ps (set x v) rest y
def uL{α:Type}{r:Rp α}{ps:List (Nat×Nat)}{S:SH}{a:Act}(hF:db E.N S a G): ∀(parts:List (Nat×Operand)) (x y:α) (cs:List Value),BP E G r ps x parts y->r.rc S cs x->
  ∃ds,r.rc S ds y/\Instr.fill (ps.toArray[·]?) cs.toArray (parts.map fun p=>(p.1,a.eval p.2))=some ds.toArray
 |[],x,y,cs,h,I=>by
  have e:x=y:=h
  subst e
  exact⟨cs,I,rfl⟩
 |(i,o)::rest,x,y,cs,⟨β,q,set,off,v,Y,H,h3,h4,h5⟩,I=>by
  obtain⟨c,hv,hc⟩:=h4 S a hF
  have hl:=q.len hc
  have hlr:=r.len I
  have h3' :=lL h3
  have hcells:(a.eval o).cells=c.toArray:=by rw [hv];exact od hc
  obtain⟨ds,h6,h7⟩:=uL hF rest _ y _ h5 (H S cs x c v I hc)
  refine⟨ds,h6,?_⟩
  have hps:ps.toArray[i]? =some (off,q.sz):=by simpa using Y
  have hs:(a.eval o).cells.size=q.sz:=by rw [hcells];simpa using hl
  have h8:=rh (a.eval o) off (cs.take off) ((cs.drop off).take q.sz) (cs.drop (off+q.sz)) (by rw [hs];simp;omega) (by simp;omega)
  have e1:cs.take off++(cs.drop off).take q.sz++cs.drop (off+q.sz)=cs:=by
   rw [jI,<-lW,pe,pe]
  rw [e1]at h8
  simp only [wu,Instr.fill,hps]
  rw [ei (by simp [hs,hlr];omega),h8,hcells]
  simpa using h7
def bz{r:Rp α}{x y:α}{ps:List (Nat×Nat)}{sz:Nat}{agg:Bool}(ti:TI E.P aT sz bytes agg z)(hp:kN E.P aT=some ps)(hz: ∀S,r.rc S z x)(V:BP E G r ps x parts y)(ha:r.agg=true:=by rfl):
  bJ E O G ⟨dst,.build aT parts.toArray,ty,pos,after,g⟩ (X r y):=
 .of_pure fun a w S _ _ hF=>by
  obtain⟨zv,hzr,hzc⟩:=ti.zero w
  obtain⟨ds,Y,H⟩:=uL hF parts x y z V (hz S)
  unfold kN at hp
  split at hp
  ·rename_i fs hu
   have hpl:=uq fs.toList ps w hp
   have hpl2:(fs.mapM (fun f=>do pure (f.offset,<-sizeOf f.type):Field->Sem (Nat×Nat))).run E.P w= .ok ps.toArray w:=by
    have hfs:fs=fs.toList.toArray:=by simp
    generalize fs.toList=l at hfs hpl
    subst hfs
    rw [List.mapM_toArray,Sem.run_map,hpl]
    rfl
   refine⟨.agg ds.toArray,?_,ds,(mz ha ds).symm,Y⟩
   simp only [execOp,Instr.build,ow,hzr,pp,gy hu,hpl2,hzc]
   have hm:(parts.toArray.map fun(i,x)=>(i,a.eval x)).toList=parts.map fun p=>(p.1,a.eval p.2):=by simp
   rw [hm,H]
   simp
  ·cases hp
end
section
def eD{P:Program}{N:Nat}{B:Nat->Prop}{w0:World}{S0:SH}{r:Rp α}{x:α}{sz:Nat}{agg:Bool}(hr:fn.results= #[.cell k aT])(ti:TI P aT sz bytes agg z)(hsz:r.sz=sz)(hag:r.agg=agg)(hk:bu G k=some (bp r x)):
  AT ⟨P,⟨N,[]⟩,B,w0,S0,none⟩ (bodyPost P fn (vD ⟨P,⟨N,[]⟩,B,w0,S0,none⟩ (X r x))) .ret O G:=fun a w S st=>by
 obtain⟨b,off,c,U,fr,Y,H,h3⟩:=st.facts.at_ k _ hk
 obtain⟨c',h4,h5⟩:=st.sat.part H (r.len h3)
 rw [<-h5]at h3
 refine⟨st.facts.defers,r.val ((c'.toList.drop off).take r.sz),?_,_,S,rfl,st.ext,st.sat,_,rfl,h3⟩
 have hl:=fa ti h4 hsz hag h3
 have h1' :a.tmps[k]?.getD undef=Value.pointer (some ⟨b,off,none⟩):=by simpa [wB] using Y
 simp [results,hr,h1',asAddr,hl]
end
end Go.Proofs.YtbmmihfagmchaaaGreat

