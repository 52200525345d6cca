/- cE of this claim: W1, W49, W2, W3, W4, W5, W6, W7, W8, W9, W10, W11, W12, W13. -/
import Derived.WalkKit
import Derived.Orders
import Derived.Lone
import Derived.RunT
import Derived.Calls
import Derived.RangeFuncIn
import Derived.TacticsIn
import Derived.OrdersIn
import Derived.LoopIn
import Derived.Laws.AppendOwn
import Derived.Deep.Upon
import Derived.Lib.AppendStr
import Derived.IntWalk
set_option linter.all false
-- TABI
namespace Go.Proofs.YtdohlidddcgfjaaGreat
open Go
def bG:= @Option.bind_some
def bk:= @if_neg
def bJ:= @if_pos
def tp:= @List.getElem?_eq_some_iff
def qa:= @List.mem_cons_self
def pe:= @List.append_assoc
def ry:= @List.mem_cons_of_mem
def pt:= @Bool.and_eq_true
def lI:= @List.getElem?_eq_getElem
def eJ:= @Nat.le_refl
def iG:= @List.length_cons
def mq:= @List.length_append
def mp:= @decide_eq_true_eq
def j3:= @run_underlying
def mo:= @List.all_eq_true
def tH:= @List.eq_nil_of_length_eq_zero
def qy:= @Nat.eq_of_beq_eq_true
def kj:= @List.mem_cons
def rC:= @List.mem_of_getElem?
def sn:= @Nat.le_of_ble_eq_true
def oY:= @List.nil_append
def uj:= @List.take_of_length_le
def r0:= @Bool.false_eq_true
def ui:= @List.take_append_drop
def oX:= @Bool.true_and
def qC:= @List.append_nil
def xC:= @List.getElem?_append_right
def rF:= @IntKind.wrap_i64
def rE:= @Option.some.inj
def qb:= @Nat.lt_or_ge
def oW:= @Nat.zero_le
def zu:= @List.getElem?_take_of_lt
def zX:= @Array.getElem?_replicate
def AP:= @List.getElem?_append_left
def AO:= @List.drop_eq_getElem_cons
def Dh:= @List.take_append_of_le_length
def wF:= @List.getElem?_drop
def xO:= @List.drop_eq_nil_iff
def vY:= @Result.andThen_ok
def uW:= @List.mem_append
def uV:= @List.drop_drop
def mG:= @if_true
def xN:= @Nat.lt_of_lt_of_le
def vX:= @List.length_nil
def ug:= @Bool.not_true
def oV:= @if_false
def xM:= @Int.toNat_natCast
def AN:= @Nat.mul_le_mul_right
def vE:= @Bool.false_or
def xL:= @IntKind.wrap_u64
def zt:= @List.flatMap_cons
def xB:= @Option.map_some
def zW:= @List.mem_singleton
def uU:= @Sem.run_bind
def uT:= @Nat.zero_add
def xK:= @Nat.min_eq_left
def HA:= @Array.getD_eq_getD_getElem?
def xJ:= @Bool.and_assoc
def Hz:= @Array.getElem?_eq_some_iff
def zr:= @List.drop_zero
def AL:= @Bool.not_eq_true
def FM:= @Option.map_eq_some_iff
def AK:= @Bool.or_eq_true
def vD:= @Nat.blt_eq
def AJ:= @Bool.eq_iff_iff
def vC:= @beq_iff_eq
def wE:= @Prod.mk.inj
def zq:= @getD_set_true
def B4:= @Nat.lt_succ_self
def Hy:= @List.drop_eq_nil_of_le
def Hx:= @List.drop_of_length_le
def AI:= @List.take_take
def De:= @List.length_drop
def xI:= @Nat.add_mul
def DI:= @Bool.not_eq_true'
def Dd:= @List.length_set
def Dc:= @decide_eq_false
def DG:= @List.any_eq_true
def DF:= @List.take_length
def DE:= @List.length_take
def FJ:= @List.cons_append
def CO:= @Bool.and_eq_true_iff
def xS:= @heap_alloc_new
def AY:= @Option.bind_assoc
def AX:= @Bool.eq_false_iff
def AW:= @Function.comp_def
def CN:= @Array.length_toList
def zD:= @IntKind.wrap_u8
def DQ:= @List.length_replicate
def DP:= @List.getElem?_eq_none
def I6:= @List.drop_append_of_le_length
def xo:= @Nat.sub_self
def zC:= @List.drop_take
def DO:= @List.mem_append_left
def Gl:= @List.getElem?_cons_zero
def ul:= @mem_ready
def AV:= @Option.bind_map
def xn:= @getD_set_ne
def xR:= @Nat.le_trans
def xQ:= @Nat.mul_succ
def zB:= @List.all_cons
def zA:= @List.cons.inj
def AU:= @Bool.not_false
def Gi:= @List.map_congr_left
def xP:= @bne_iff_ne
def AS:= @List.mem_map
def AR:= @Nat.le_of_eq
def uk:= @Iff.rfl
def I5:= @List.contains_iff_mem
def CM:= @Bool.or_false
def Gh:= @List.size_toArray
def AQ:= @Nat.mul_one
def PY:= @List.take_succ_eq_append_getElem
def CL:= @Bool.or_true
def MP:= @Nat.add_right_cancel_iff
def MO:= @Option.isSome_iff_exists
def Gg:= @decide_eq_decide
def Ge:= @List.getElem_mem
def CK:= @Nat.add_zero
def MN:= @decide_eq_false_iff_not
def DL:= @List.map_cons
def Gd:= @List.length_map
def MM:= @Array.toList_replicate
def ML:= @MapKept.run_getObj_map
def I3:= @List.any_eq_false
def MK:= @List.countP_replicate
def DK:= @Bool.true_or
def MJ:= @MapKept.run_checkKey
def I2:= @List.mem_reverse

def IY:Obj->Obj->Prop
 | .cells c E fr,o' => ∃aR:List Value,o' = .cells (c.toList++aR).toArray E fr
 |o,o' =>o' =o
variable{o:Oper}
def uA(o:Obj):IY o o:=by
 cases o<;>first|rfl|exact⟨[],by simp⟩
variable{c:Code}{cells:List Value}{aR:Nat}{fr:Nat×Nat}{k:Nat}{o' :Obj}
def GV{o o'' :Obj}(h:IY o o')(k:IY o' o''):IY o o'' :=by
 cases o with
 |cells c E fr=>
  obtain⟨aR,rfl⟩:=h
  obtain⟨d',rfl⟩:=k
  exact⟨aR++d',by simp⟩
 |_=>cases h;exact k
variable{off:Nat}
def EE{c:Array Value}{E:TypeId}(h:IY (.cells c E fr) o'){n:Nat}(hl:((c.toList.drop off).take n).length=n):
  ∃c',o' = .cells c' E fr/\(c'.toList.drop off).take n=(c.toList.drop off).take n:=by
 obtain⟨aR,rfl⟩:=h
 refine⟨_,rfl,?_⟩
 by_cases hn:n=0
 ·subst hn;simp
 simp only [DE,De]at hl
 rw [I6 (by omega),Dh (by simp only [De];omega)]
abbrev SH:=Nat->Option Obj
def SH.le(S S' :SH):Prop:= ∀b o,S b=some o-> ∃o',S' b=some o' /\IY o o'
variable{S:SH}
def SH.le_refl(S:SH):SH.le S S:=fun _ o h=>⟨o,h,uA o⟩
variable{S' S'' :SH}{b:Bool}{e:TypeId}
def SH.le_trans(h:SH.le S S')(k:SH.le S' S''):SH.le S S'' :=fun b o e=>let⟨o',X,K⟩:=h b o e;let⟨o'',h3,h4⟩:=k b o' X;⟨o'',h3,GV K h4⟩
structure Ty where
 p:SH->Value->Prop
 mono: ∀{S S' :SH} {v:Value},SH.le S S' ->p S v->p S' v

structure Rp(α:Type) where
 sz:Nat
 agg:Bool
 rc:SH->List Value->α->Prop
 mono: ∀{S S' :SH} {cs:List Value} {x:α},SH.le S S' ->rc S cs x->rc S' cs x
 len: ∀{S:SH} {cs:List Value} {x:α},rc S cs x->cs.length=sz
 one: ∀{S:SH} {cs:List Value} {x:α},rc S cs x-> ∀c∈cs,c.oneCell' =true
 sc:agg=false->sz=1

def Rp.val{α:Type}(r:Rp α)(cs:List Value):Value:=if r.agg then .agg cs.toArray else cs.headD undef

def tD{α:Type}(r:Rp α)(x:α):Ty where
 p:=fun S v=> ∃cs,v=r.val cs/\r.rc S cs x
 mono:=fun h ⟨cs,e,k⟩=>⟨cs,e,r.mono h k⟩

def D8:Ty where
 p:=fun _ _=>True
 mono:=fun _ _=>trivial

def M(u:Value):Ty where
 p:=fun _ v=>v=u
 mono:=fun _ h=>h

def rI(k:IntKind):Rp Int where
 sz:=1
 agg:=false
 rc:=fun _ cs x=>cs=[.int k x]
 mono:=fun _ h=>h
 len:=fun h=>by rw [h];rfl
 one:=fun h c hc=>by subst h;simp at hc;subst hc;rfl
 sc:=fun _=>rfl

def rB:Rp Bool where
 sz:=1
 agg:=false
 rc:=fun _ cs x=>cs=[.bool x]
 mono:=fun _ h=>h
 len:=fun h=>by rw [h];rfl
 one:=fun h c hc=>by subst h;simp at hc;subst hc;rfl
 sc:=fun _=>rfl

abbrev N1:=List UInt8
def rS:Rp N1 where
 sz:=1
 agg:=false
 rc:=fun _ cs x=>cs=[.string ⟨x.toArray⟩]
 mono:=fun _ h=>h
 len:=fun h=>by rw [h];rfl
 one:=fun h c hc=>by subst h;simp at hc;subst hc;rfl
 sc:=fun _=>rfl

variable{cs:List Value}{v:Value}
def eK{k:IntKind}{n:Int}:(tD (rI k) n).p S v↔v= .int k n:=by
 constructor
 ·rintro⟨cs,rfl,h⟩;have h' :cs=[.int k n]:=h;subst h';rfl
 ·rintro rfl;exact⟨[.int k n],rfl,rfl⟩
def jc:(tD rB b).p S v↔v= .bool b:=by
 constructor
 ·rintro⟨cs,rfl,h⟩;have h' :cs=[.bool b]:=h;subst h';rfl
 ·rintro rfl;exact⟨[.bool b],rfl,rfl⟩
variable{ac:N1}
def B9:(tD rS ac).p S v↔v= .string ⟨ac.toArray⟩:=by
 constructor
 ·rintro⟨cs,rfl,h⟩;have h' :cs=[.string ⟨ac.toArray⟩]:=h;subst h';rfl
 ·rintro rfl;exact⟨[.string ⟨ac.toArray⟩],rfl,rfl⟩

def sh{α:Type}(r:Rp α)(S:SH):List Value->List α->Prop
 |cs,[]=>cs=[]
 |cs,x::xs=> ∃a b,cs=a++b/\r.rc S a x/\sh r S b xs
variable{a:Act}{α:Type}{xs:List α}
def s9{α:Type}{r:Rp α}{S S' :SH}(h:SH.le S S'): ∀{xs:List α} {cs:List Value},sh r S cs xs->sh r S' cs xs
 |[],_,k=>k
 |_::_,_,⟨a,b,e,X,K⟩=>⟨a,b,e,r.mono h X,s9 h K⟩
variable{x:Operand}
def ll{α:Type}{r:Rp α}{S:SH}: ∀{xs:List α} {cs:List Value},sh r S cs xs->cs.length=xs.length*r.sz
 |[],_,k=>by rw [show _=_ from k];simp
 |x::xs,_,⟨a,b,e,X,K⟩=>by rw [e,mq,r.len X,ll K,iG,xI];omega
def yZ{α:Type}{r:Rp α}{S:SH}: ∀{xs:List α} {cs:List Value},sh r S cs xs-> ∀c∈cs,c.oneCell' =true
 |[],_,k,c,hc=>by rw [show _=_ from k]at hc;cases hc
 |x::xs,_,⟨a,b,e,X,K⟩,c,hc=>by
  rw [e]at hc
  rcases uW.1 hc with h|h
  ·exact r.one X c h
  ·exact yZ K c h
variable{ys:List α}
def sD{α:Type}{r:Rp α}{S:SH}: ∀{xs ys:List α} {cs ds:List Value},sh r S cs xs->sh r S ds ys->sh r S (cs++ds) (xs++ys)
 |[],_,_,_,k,h=>by rw [show _=_ from k];exact h
 |_::_,_,_,_,⟨a,b,e,X,K⟩,h=>⟨a,_,by rw [e,pe],X,sD K h⟩
def ri{α:Type}{r:Rp α}{S:SH}: ∀{xs ys:List α} {cs:List Value},sh r S cs (xs++ys)->
  sh r S (cs.take (xs.length*r.sz)) xs/\sh r S (cs.drop (xs.length*r.sz)) ys
 |[],_,_,k=>by simp [sh];exact k
 |x::xs,ys,cs,⟨a,b,e,X,K⟩=>by
  have hl:=r.len X
  have ih:=ri K
  have e1:(x::xs).length*r.sz=a.length+xs.length*r.sz:=by rw [hl,iG,xI];omega
  rw [e,e1,List.take_length_add_append,List.drop_length_add_append]
  exact⟨⟨a,_,rfl,X,ih.1⟩,ih.2⟩
def Lw{r:Rp α}{x:α}:sh r S cs [x]↔r.rc S cs x:=by
 constructor
 ·rintro⟨a,b,rfl,h,H⟩
  rw [show b=[]from H,qC];exact h
 ·intro h;exact⟨cs,[],by simp,h,rfl⟩
variable{i:Nat}
def A9{r:Rp α}(h:sh r S cs xs){x:α}(V:xs[i]? =some x):
  r.rc S ((cs.drop (i*r.sz)).take r.sz) x:=by
 have hi:i<xs.length:=(tp.1 V).1
 have e:xs=xs.take i++(x::xs.drop (i+1)):=by
  have:=tp.1 V
  rw [<-this.2,<-AO hi,ui]
 have hl:(xs.take i).length=i:=by simp;omega
 rw [e]at h
 have K:=(ri h).2
 rw [hl]at K
 obtain⟨a,b,e2,h3,_⟩:=K
 rw [e2,<-r.len h3,List.take_left]
 exact h3

def GC{α:Type}(r:Rp α)(S:SH)(a:Option Addr)(xs:List α):Prop:=
 xs=[]\/ ∃b off c E fr,a=some ⟨b,off,none⟩/\S b=some (.cells c E fr)/\sh r S ((c.toList.drop off).take (xs.length*r.sz)) xs
def f6{α:Type}(r:Rp α):Rp (List α) where
 sz:=1
 agg:=false
 rc:=fun S cs xs=> ∃a cap,cs=[.slice a xs.length cap]/\xs.length<=cap/\cap<=maxLen/\GC r S a xs
 mono:=fun h ⟨a,cap,e,X,K,h3⟩=>⟨a,cap,e,X,K,h3.imp id fun⟨b,off,c,E,fr,e1,e2,e3⟩=>by
  obtain⟨o',h4,h5⟩:=h _ _ e2
  obtain⟨c',rfl,h6⟩:=EE h5 (ll e3)
  exact⟨b,off,c',E,fr,e1,h4,by rw [h6];exact s9 h e3⟩⟩
 len:=fun⟨a,cap,e,_⟩=>by rw [e];rfl
 one:=fun⟨a,cap,e,_⟩ c hc=>by rw [e]at hc;simp at hc;subst hc;rfl
 sc:=fun _=>rfl
variable{cap:Nat}
def mf{r:Rp α}:(tD (f6 r) xs).p S v↔ ∃a cap,v= .slice a xs.length cap/\xs.length<=cap/\cap<=maxLen/\GC r S a xs:=by
 constructor
 ·rintro⟨cs,rfl,a,cap,rfl,h⟩;exact⟨a,cap,rfl,h⟩
 ·rintro⟨a,cap,rfl,h⟩;exact⟨_,rfl,a,cap,rfl,h⟩
def HM{r:Rp α}:(tD (f6 r) []).p S (.slice none 0 0):=mf.2 ⟨none,0,rfl,eJ _,oW _,.inl rfl⟩

def ck{α:Type}(r:Rp α)(x:α):Ty where
 p:=fun S v=> ∃b off c E fr,v= .pointer (some ⟨b,off,none⟩)/\S b=some (.cells c E fr)/\r.rc S ((c.toList.drop off).take r.sz) x
 mono:=fun h ⟨b,off,c,E,fr,e1,e2,e3⟩=>by
  obtain⟨o',h4,h5⟩:=h _ _ e2
  obtain⟨c',rfl,h6⟩:=EE h5 (r.len e3)
  exact⟨b,off,c',E,fr,e1,h4,by rw [h6];exact r.mono h e3⟩

def ZG:List (Nat×List Value):=[]
def Zl(w:World):Prop:=True
structure nm(w:World)(S:SH):Prop where
 at_: ∀b o,S b=some o-> ∃o',w.heap[b]? =some o' /\IY o o'
 gl: ∀p∈ZG,∃c T fr,S p.1=some (.cells c T fr)/\c.toList.take p.2.length=p.2
 tb: ∀w' :World,(∀b o,S b=some o-> ∃o',w'.heap[b]? =some o' /\IY o o')->Zl w'
instance{w:World}{S:SH}:CoeFun (nm w S) (fun _=> ∀b o,S b=some o-> ∃o',w.heap[b]? =some o' /\IY o o'):=⟨nm.at_⟩
variable{w:World}
def nm.lt(h:nm w S){b:Nat}{o:Obj}(k:S b=some o):b<w.heap.size:=let⟨_,X,_⟩:=h b o k;(Hz.1 X).1
def nm.part(h:nm w S){b:Nat}{c:Array Value}{E:TypeId}(k:S b=some (.cells c E fr)){n:Nat}(hl:((c.toList.drop off).take n).length=n):
  ∃c',w.heap[b]? =some (.cells c' E fr)/\(c'.toList.drop off).take n=(c.toList.drop off).take n:=by
 obtain⟨o',X,K⟩:=h b _ k
 obtain⟨c',rfl,h3⟩:=EE K hl
 exact⟨c',X,h3⟩
variable{w' :World}
def nm.same(h:nm w S)(k: ∀b o,S b=some o->w'.heap[b]? =w.heap[b]?):nm w' S:=⟨fun b o e=>by rw [k b o e];exact h b o e,h.gl,h.tb⟩

def uX:Nat->Prop:=fun _=>False
structure la(B:Nat->Prop)(w:World)(S:SH)(w' :World)(S' :SH):Prop where
 os:w'.os=w.os
 tape:w'.tape=w.tape
 output:w'.output=w.output
 drawn:w.drawn<=w'.drawn
 size:w.heap.size<=w'.heap.size
 heap: ∀k,k<w.heap.size-> ¬B k->w'.heap[k]? =w.heap[k]?
 keep:SH.le S S'
 old: ∀k,k<w.heap.size-> ¬B k->S' k=S k
def jS(B:Nat->Prop)(w:World)(S:SH):la B w S w S:=⟨rfl,rfl,rfl,eJ _,eJ _,fun _ _ _=>rfl,SH.le_refl _,fun _ _ _=>rfl⟩
variable{w'' :World}
def la.trans{B:Nat->Prop}(h:la B w S w' S')(k:la B w' S' w'' S''):la B w S w'' S'' :=
 ⟨k.os.trans h.os,k.tape.trans h.tape,k.output.trans h.output,xR h.drawn k.drawn,xR h.size k.size,
  fun i hi H=>(k.heap i (xN hi h.size) H).trans (h.heap i hi H),SH.le_trans h.keep k.keep,
  fun i hi H=>(k.old i (xN hi h.size) H).trans (h.old i hi H)⟩
variable{C:Nat->Prop}
def la.step{B:Nat->Prop}(h:la B w S w' S')(k:la C w' S' w'' S'')(hC: ∀b,C b->w.heap.size<=b\/B b):la B w S w'' S'' :=
 ⟨k.os.trans h.os,k.tape.trans h.tape,k.output.trans h.output,xR h.drawn k.drawn,xR h.size k.size,
  fun i hi H=>(k.heap i (xN hi h.size) (fun hc=>(hC i hc).elim (fun h=>by omega) H)).trans (h.heap i hi H),SH.le_trans h.keep k.keep,
  fun i hi H=>(k.old i (xN hi h.size) (fun hc=>(hC i hc).elim (fun h=>by omega) H)).trans (h.old i hi H)⟩
def la.more{B:Nat->Prop}(h:la B w S w' S')(k: ∀b,B b->C b):la C w S w' S' :=
 ⟨h.os,h.tape,h.output,h.drawn,h.size,fun i hi H=>h.heap i hi (fun h=>H (k i h)),h.keep,fun i hi H=>h.old i hi (fun h=>H (k i h))⟩
def la.step0{B:Nat->Prop}(h:la B w S w' S')(k:la uX w' S' w'' S''):la B w S w'' S'' :=h.step k fun _ H=>H.elim

structure OE where
 fp:Nat->Prop
 p:World->SH->Prop
 here: ∀{w S},p w S-> ∀k,fp k->k<w.heap.size
 kept: ∀{C w w' S S'},p w S->la C w S w' S' ->(∀k,fp k-> ¬C k)->p w' S'
def OE.holds(e:OE)(base:Nat)(B:Nat->Prop)(w:World)(S:SH):Prop:=e.p w S/\ ∀k,e.fp k->base<=k\/B k
def OE.apart(e f:OE):Prop:= ∀b,e.fp b-> ¬f.fp b
def fe(base:Nat)(B:Nat->Prop)(w:World)(S:SH):List OE->Prop
 |[]=>True
 |e::O=>e.holds base B w S/\(∀f∈O,e.apart f)/\fe base B w S O
def IT{e:OE}{base:Nat}{B:Nat->Prop}(h:e.holds base B w S)(k:la C w S w' S')(hC: ∀b,e.fp b-> ¬C b):e.holds base B w' S' :=⟨e.kept h.1 k hC,h.2⟩
variable{O:List OE}{f:FuncId}
def fe.ext{base:Nat}{B:Nat->Prop}(k:la C w S w' S'): ∀{O:List OE},fe base B w S O->(∀e∈O,∀b,e.fp b-> ¬C b)->fe base B w' S' O
 |[],_,_=>trivial
 |e::_,⟨X,K,h3⟩,hC=>⟨IT X k (hC e (qa ..)),K,fe.ext k h3 fun f hf=>hC f (ry _ hf)⟩
def fe.ext0{base:Nat}{B:Nat->Prop}(k:la uX w S w' S')(h:fe base B w S O):fe base B w' S' O:=
 h.ext k fun _ _ _ _ H=>H
def fe.mem{base:Nat}{B:Nat->Prop}: ∀{O:List OE},fe base B w S O-> ∀e∈O,e.holds base B w S
 |_::_,⟨X,_,_⟩,_,.head _=>X
 |_::_,⟨_,_,h3⟩,_,.tail _ hm=>fe.mem h3 _ hm

abbrev mV:=List (Nat×Ty)
def cC:mV->Nat->Option Ty
 |[],_=>none
 |(k,t)::G,j=>bif Nat.beq k j then some t else cC G j
structure Fr where
 n:Nat
 ds:List Deferred
structure cE(N:Fr)(S:SH)(a:Act)(G:mV):Prop where
 size:a.tmps.size=N.n
 defers:a.defers=N.ds
 at_: ∀k t,cC G k=some t->t.p S (a.tmps.getD k undef)
variable{G:mV}{j:Nat}{t:Ty}
def cE.mono{N:Fr}(h:cE N S a G)(k:SH.le S S'):cE N S' a G:=⟨h.size,h.defers,fun j t e=>t.mono k (h.at_ j t e)⟩
def cE.sub{N:Fr}{G' :mV}(h:cE N S a G)(k: ∀j t,cC G' j=some t->cC G j=some t):cE N S a G' :=⟨h.size,h.defers,fun j t e=>h.at_ j t (k j t e)⟩
variable{u:OE}
def cE.put{N:Fr}(h:cE N S a G)(hd:Nat.blt aR N.n=true)(hv:t.p S v):cE N S (a.put (some aR) v) ((aR,t)::G):=by
 have hd' :aR<N.n:=by simpa [vD] using hd
 refine⟨by simp [Act.put,h.size],h.defers,fun j u e=>?_⟩
 unfold cC at e
 by_cases hj:aR=j
 ·subst hj
  have e' :t=u:=by simpa using e
  rw [e']at hv
  simp [Act.put,HA,h.size,hd',hv]
 ·have H:Nat.beq aR j=false:=by cases hh:Nat.beq aR j with
   |false=>rfl
   |true=>exact absurd (qy hh) hj
  rw [H]at e
  have:=h.at_ j u e
  simpa [Act.put,HA,Array.getElem?_setIfInBounds,hj] using this
def OB:mV->mV->Prop
 |[],_=>True
 |(k,t)::G',G=>cC G k=some t/\OB G' G
def GB: ∀{G' G:mV},OB G' G-> ∀j t,cC G' j=some t->cC G j=some t
 |(k,t)::G',G,⟨X,K⟩,j,u,e=>by
  unfold cC at e
  by_cases H:Nat.beq k j=true
  ·rw [H]at e
   have:=qy H
   subst this
   simp only [cond_true]at e
   rw [<-e];exact X
  ·rw [AL]at H
   rw [H]at e
   exact GB K j u e

def aY(N:Fr)(G:mV)(x:Operand)(t:Ty):Prop:= ∀S a,cE N S a G->t.p S (a.eval x)
def D{N:Fr}(h:cC G k=some t):aY N G (.tmp k) t:=fun _ _ hF=>hF.at_ k t h
def hI{N:Fr}{k:IntKind}{n:Int}:aY N G (.const (.int k n)) (tD (rI k) n):=fun _ _ _=>eK.2 rfl
def hB{N:Fr}:aY N G (.const (.bool b)) (tD rB b):=fun _ _ _=>jc.2 rfl
def hS{N:Fr}{ac:Array UInt8}:aY N G (.const (.string ⟨ac⟩)) (tD rS ac.toList):=fun _ _ _=>B9.2 rfl
def Pl{N:Fr}{r:Rp α}:aY N G (.const (.slice none 0 0)) (tD (f6 r) []):=fun _ _ _=>HM
def hV{N:Fr}:aY N G (.const v) (M v):=fun _ _ _=>rfl

section
variable{P:Program}
end

def fw(r:Option Nat):Fence:={fn:=fun _=>True,depth:=none,alive:=false,round:=r}
variable{args:α->List Ty}
def xi{r:Option Nat}{n:Nat}{P:Program}{args:Array Value}{R:Ending->World->Prop}:CallsIn (fw r) n P f args w R↔Calls P f args w R:=callsIn_wide
def Km{r:Option Nat}{n:Nat}:(fw r).depth.isSome=true->1<=n:=fun h=>by cases h
structure En where
 P:Program
 N:Fr
 B:Nat->Prop
 w0:World
 S0:SH
 r:Option Nat
def En.base(E:En):Nat:=E.w0.heap.size

def WH(P:Program)(o:Oper)(a:Act)(h2:Act->World->Prop):Result Next->Prop
 | .ok (.value v) w' =>h2 (a.put o.dst v) w'
 | .ok .skip w' =>h2 (a.put o.dst undef) w'
 | .ok (.enter f args) w' =>Calls P f args w' fun e w'' => ∃v,e= .returned v/\h2 (a.put o.dst v) w''
 | .ok (.round l f tmps assign body) w' =>RoundIn (fw none) 0 P l f tmps assign body w' fun e w'' => ∃v,e= .returned v/\h2 (a.put o.dst v) w''
 |_=>False
def J0(P:Program)(o:Oper)(a:Act)(w:World)(h2:Act->World->Prop):Prop:=(∀c,o.op≠ .defer c)/\WH P o a h2 ((execOp a.eval o).run P w)
variable{l:Option Nat}
def Lt{r:Option Nat}{n:Nat}{P:Program}{l:Nat}{tmps:Array Value}{assign body:Code}{R:Ending->World->Prop}(h:RoundIn (fw none) 0 P l f tmps assign body w R):RoundIn (fw r) n P l f tmps assign body w R:=
 ⟨trivial,fun c cs _=>h.2 c cs (fun _ hd=>by cases hd)⟩
variable{h2 K' :Act->World->Prop}
def Q0{P:Program}(hK: ∀a w,h2 a w->K' a w){r:Result Next}(h:WH P o a h2 r):WH P o a K' r:=by
 cases r with
 |ok n w=>
  cases n<;>simp only [WH]at h ⊢
  case value=>exact hK _ _ h
  case skip=>exact hK _ _ h
  case enter f args=>exact h.mono fun e w' ⟨v,he,hk⟩=>⟨v,he,hK _ _ hk⟩
  case round l f tmps assign body=>exact h.mono fun e w' ⟨v,he,hk⟩=>⟨v,he,hK _ _ hk⟩
 |halt x w=>simp only [WH]at h
def oO{P:Program}(hK: ∀a w,h2 a w->K' a w)(h:J0 P o a w h2):J0 P o a w K' :=⟨h.1,Q0 hK h.2⟩
variable{aK:Exit->Act->World->Prop}{β:Type}{res:β->Ty}
def mH{P:Program}{r:Option Nat}(hK: ∀a w,h2 a w->K' a w)(h:J0 P o a w h2):o.wpIn (fw r) 0 P a w K' aK:=by
 obtain⟨hd,h⟩:=h
 refine⟨fun _ _=>trivial,?_⟩
 rw [Oper.semAt_eq _ _ _ hd]
 generalize (execOp a.eval o).run P w=res at h
 cases res with
 |ok n w=>
  cases n<;>simp only [WH]at h<;>simp only [Oper.uponIn]
  case value=>exact hK _ _ h
  case skip=>exact hK _ _ h
  case enter f args=>exact⟨Km,xi.2 (h.mono fun e w' ⟨v,he,hk⟩=>by subst he;exact hK _ _ hk)⟩
  case round l f tmps assign body=>exact⟨Km,(Lt h).mono fun e w' ⟨v,he,hk⟩=>by subst he;exact hK _ _ hk⟩
 |halt x w=>simp only [WH]at h

def cI(E:En)(O:List OE)(G:mV)(o:Oper)(t:Ty):Prop:=
 ∀a w S,nm w S->fe E.base E.B w S O->cE E.N S a G->
  J0 E.P o a w (fun a' w' => ∃v S',a' =a.put o.dst v/\la uX w S w' S' /\nm w' S' /\t.p S' v)
structure St(E:En)(O:List OE)(G:mV)(a:Act)(w:World)(S:SH):Prop where
 ext:la E.B E.w0 E.S0 w S
 sat:nm w S
 own:fe E.base E.B w S O
 facts:cE E.N S a G
def RG(E:En)(ops:Array Oper)(aK:Exit->Act->World->Prop)(l:List Oper)(O:List OE)(G:mV):Prop:= ∀a w S,St E O G a w S->wpListIn (fw E.r) 0 E.P ops aK l a w
def CG(E:En)(aK:Exit->Act->World->Prop)(c:Code)(O:List OE)(G:mV):Prop:= ∀a w S,St E O G a w S->c.wpIn (fw E.r) 0 E.P aK a w
def AT(E:En)(aK:Exit->Act->World->Prop)(e:Exit)(O:List OE)(G:mV):Prop:= ∀a w S,St E O G a w S->aK e a w

variable{after:Array Edge}{fn:Func}{ops:Array Oper}{pos:String}{ts:List Ty}{y:Operand}
section
variable{E:En}{G' :mV}{l:List Oper}
def St.step(h:St E O G a w S)(k:la uX w S w' S')(hs:nm w' S')(hd:Nat.blt aR E.N.n=true)(hv:t.p S' v):
  St E O ((aR,t)::G) (a.put (some aR) v) w' S' :=
 ⟨h.ext.step0 k,hs,h.own.ext0 k,(h.facts.mono k.keep).put hd hv⟩
def St.sub(h:St E O G a w S)(k:OB G' G):St E O G' a w S:=⟨h.ext,h.sat,h.own,h.facts.sub (GB k)⟩
def RG.of(Y:o.guard=none)(h: ∀a w S,St E O G a w S->J0 E.P o a w (fun a' w' =>wpListIn (fw E.r) 0 E.P ops aK l a' w')):RG E ops aK (o::l) O G:=fun a w S st=>
 wpListIn_plain Y fun _ hK=>mH hK (h a w S st)

def vz{op:Op}{ty:TypeId}(h:cI E O G ⟨some aR,op,ty,pos,after,none⟩ t)(hd:Nat.blt aR E.N.n=true)(k:RG E ops aK l O ((aR,t)::G)):
  RG E ops aK (⟨some aR,op,ty,pos,after,none⟩::l) O G:= .of rfl fun a w S st=>
 oO (fun a' w' ⟨_,_,ha,he,hs,hv⟩=>by subst ha;exact k _ _ _ (st.step he hs hd hv)) (h a w S st.sat st.own st.facts)
def aJ(h:AT E aK .normal O G):RG E ops aK [] O G:=fun a w S st=>h a w S st
def aj{id:Nat}{l:List Oper}(h:RG E l.toArray aK l O G):CG E aK (.region id l.toArray false) O G:=fun a w S st=>wpIn_region_lit (h a w S st)
def aP{x y:Code}(h:CG E (Exit.then (y.wpIn (fw E.r) 0 E.P aK) aK) x O G):CG E aK (.seq x y) O G:=fun a w S st=>wpIn_seq (h a w S st)
def au{y:Code}(h:CG E aK y O G):AT E (Exit.then (y.wpIn (fw E.r) 0 E.P aK) aK) .normal O G:=h
def bc(h:AT E aK .normal O G):CG E aK .skip O G:=fun a w S st=>wpIn_skip (h a w S st)
def cQ{id:Nat}(h:AT E aK (.exit id) O G):CG E aK (.exit id) O G:=fun a w S st=>wpIn_exit (h a w S st)
def pd(h:AT E aK .ret O G):CG E aK .ret O G:=fun a w S st=>wpIn_ret (h a w S st)
def bE{e:Exit}(h:AT E aK e O G')(k:OB G' G):AT E aK e O G:=fun a w S st=>h a w S (st.sub k)
def tZ{c:Operand}{x y:Code}(H:aY E.N G c (tD rB b))(V:b=true->CG E aK x O G)(hy:b=false->CG E aK y O G):CG E aK (.cond c x y) O G:=fun a w S st=>by
 have hv:a.eval c= .bool b:=jc.1 (H S a st.facts)
 refine wpIn_cond hv ?_
 cases b with
 |true=>exact V rfl a w S st
 |false=>exact hy rfl a w S st
def ak{id:Nat}(h:CG E (Exit.inBlock id aK) c O G):CG E aK (.block id c) O G:=fun a w S st=>wpIn_block (h a w S st)
def yn(r:Option Nat)(P:Program)(c:Code)(aK:Exit->Act->World->Prop)(a:Act)(w:World):Prop:=
 ∀(b:Frame) (k:List Item) (cs:List Frame),b.roundOf=r-> ∃e a' w',aK e a' w' /\ArrivesIn (Machine.fenced P (fw r)) P (lone (b.atR a (.code c:: .inLoop c::k)) cs w) b k cs e a' w'
def Nt{r:Option Nat}{n:Nat}:(fw r).room n:=fun _ hd=>by cases hd
def HE{r:Option Nat}{P:Program}{aK:Exit->Act->World->Prop}(h:yn r P c aK a w):(Code.loop c).wpIn (fw r) 0 P aK a w:=fun b k cs hro H hr=>
 let⟨e,a',w',hq,harr⟩:=h b k cs hro
 ⟨e,a',w',hq,.of_steps (.one (fenced_calm H hr rfl) stepR_loop) harr⟩
def F4{r:Option Nat}{P:Program}{aK:Exit->Act->World->Prop}(h:c.wpIn (fw r) 0 P (Exit.then (yn r P c aK) aK) a w):yn r P c aK a w:=by
 intro b k cs hro
 obtain⟨e,a₁,w₁,hq,harr⟩:=h b (.inLoop c::k) cs hro trivial Nt
 cases e with
 |normal=>
  obtain⟨e₂,a₂,w₂,hq₂,harr₂⟩:=hq b k cs hro
  exact⟨e₂,a₂,w₂,hq₂,.of_steps (StepsIn.trans harr (.one (fenced_calm (n:=0) (F:=fw r) trivial Nt rfl) stepR_inLoop)) harr₂⟩
 |exit id=>exact⟨_,a₁,w₁,hq,.pass (x:= .inLoop c) rfl (fun _ _=> .inl (by simp)) harr⟩
 |goto l=>exact⟨_,a₁,w₁,hq,.pass (x:= .inLoop c) rfl (fun _ _=> .inl (by simp)) harr⟩
 |ret=>exact⟨_,a₁,w₁,hq,.pass (x:= .inLoop c) rfl (fun _ _=> .inl (by simp)) harr⟩
 |panic ch=>exact⟨_,a₁,w₁,hq,.pass (x:= .inLoop c) rfl (fun _ _=> .inl (by simp)) harr⟩
 |outgrown=>exact⟨_,a₁,w₁,hq,.pass (x:= .inLoop c) rfl (fun _ _=> .inl (by simp)) harr⟩
def LG(E:En)(aK:Exit->Act->World->Prop)(c:Code)(O:List OE)(G:mV):Prop:= ∀a w S,St E O G a w S->yn E.r E.P c aK a w
def bA(h:LG E aK c O G):CG E aK (.loop c) O G:=fun a w S st=>HE (h a w S st)
def cJ(h:CG E (Exit.then (yn E.r E.P c aK) aK) c O G):LG E aK c O G:=fun a w S st=>F4 (h a w S st)
def aH(h:LG E aK c O G')(k:OB G' G):LG E aK c O G:=fun a w S st=>h a w S (st.sub k)
def aU(h:LG E aK c O G):AT E (Exit.then (yn E.r E.P c aK) aK) .normal O G:=h
def ap{id:Nat}(h:AT E aK (.exit id) O G):AT E (Exit.then h2 aK) (.exit id) O G:=h
def af(h:AT E aK .ret O G):AT E (Exit.then h2 aK) .ret O G:=h
def CJ{id:Nat}(h:AT E aK .ret O G):AT E (Exit.inBlock id aK) .ret O G:=h
def al{id:Nat}(h:AT E aK .normal O G):AT E (Exit.inBlock id aK) .normal O G:=h
def bL{id:Nat}(h:AT E aK .normal O G):AT E (Exit.inBlock id aK) (.exit id) O G:=fun a w S st=>by
 simp only [Exit.inBlock,mG];exact h a w S st
def cn{id id' :Nat}(hne:Nat.beq id' id=false)(h:AT E aK (.exit id') O G):AT E (Exit.inBlock id aK) (.exit id') O G:=fun a w S st=>by
 have:id' ≠id:=fun e=>by subst e;simp at hne
 simp only [Exit.inBlock,this,oV];exact h a w S st

def xH(S:SH):List Ty->List Value->Prop
 |[],[]=>True
 |t::ts,v::vs=>t.p S v/\xH S ts vs
 |_,_=>False
def xH.mono(h:SH.le S S'): ∀{ts:List Ty} {vs:List Value},xH S ts vs->xH S' ts vs
 |[],[],_=>trivial
 |t::_,_::_,⟨X,K⟩=>⟨t.mono h X,xH.mono h K⟩
def xH.length: ∀{ts:List Ty} {vs:List Value},xH S ts vs->vs.length=ts.length
 |[],[],_=>rfl
 |_::_,_::_,⟨_,K⟩=>by simp [xH.length K]
def cX(P:Program)(f:FuncId)(ts:List Ty)(t:Ty):Prop:=
 ∀w S vs,nm w S->xH S ts vs->Calls P f vs.toArray w fun e w' => ∃v S',e= .returned v/\la uX w S w' S' /\nm w' S' /\t.p S' v
def KA(E:En)(t:Ty):Ending->World->Prop:=fun e w' => ∃v S',e= .returned v/\la E.B E.w0 E.S0 w' S' /\nm w' S' /\t.p S' v
def zQ(k:Nat):List Ty->mV
 |[]=>[]
 |t::ts=>(k,t)::zQ (k+1) ts
def EO: ∀(ts:List Ty) (k j:Nat) (t:Ty),cC (zQ k ts) j=some t-> ∃i,j=k+i/\ts[i]? =some t
 |[],_,_,_,h=>by simp [zQ,cC]at h
 |u::ts,k,j,t,h=>by
  unfold zQ cC at h
  by_cases H:Nat.beq k j=true
  ·rw [H]at h
   exact⟨0,by rw [qy H];rfl,by simpa using h⟩
  ·rw [AL]at H
   rw [H]at h
   obtain⟨i,X,K⟩:=EO ts (k+1) j t h
   exact⟨i+1,by omega,by simpa using K⟩
def xH.at_: ∀{ts:List Ty} {vs:List Value} (_:xH S ts vs) (i:Nat) (t:Ty),ts[i]? =some t-> ∃v,vs[i]? =some v/\t.p S v
 |_::_,v::_,⟨X,_⟩,0,t,h=>⟨v,rfl,by simp at h;rw [<-h];exact X⟩
 |_::ts,_::vs,⟨_,K⟩,i+1,t,h=>by simpa using xH.at_ K i t (by simpa using h)
def Ax{vs:List Value}(h:xH S ts vs)(n:Nat)(hn:ts.length<=n):
  cE ⟨n,[]⟩ S {tmps:=vs.toArray++Array.replicate (n-vs.toArray.size) undef,defers:=[]} (zQ 0 ts):=by
 have hl:=h.length
 refine⟨by simp;omega,rfl,fun j t hj=>?_⟩
 obtain⟨i,e,hi⟩:=EO ts 0 j t hj
 have e' :j=i:=by omega
 subst e'
 obtain⟨v,hv,D⟩:=h.at_ j t hi
 have hlt:j<vs.length:=(tp.1 hv).1
 have:(vs.toArray++Array.replicate (n-vs.toArray.size) undef).getD j undef=v:=by
  rw [HA,Array.getElem?_append_left (by simpa using hlt)]
  simp [hv]
 rw [this];exact D
def IQ{P:Program}(hf:P.funcs[f]? =some fn)(H:fn.body=some c)(hn:ts.length<=fn.ntmps)(h: ∀w0 S0,CG ⟨P,⟨fn.ntmps,[]⟩,uX,w0,S0,none⟩ (bodyPost P fn (KA ⟨P,⟨fn.ntmps,[]⟩,uX,w0,S0,none⟩ t)) c [] (zQ 0 ts)):cX P f ts t:=by
 intro w S vs hs hv
 exact xi.1 (callsIn_of_wp (F:=fw none) (n:=0) hf H trivial (h w S _ w S ⟨jS _ _ _,hs,trivial,Ax hv _ hn⟩))
def tu(P:Program)(fn:Func)(k:Nat)(h:fn.results= #[.tmp k])(tmps:Array Value)(w:World):(results fn tmps).run P w= .ok (tmps.getD k undef) w:=by
 simp [results,h]
def aA{P:Program}{N:Nat}{B:Nat->Prop}{w0:World}{S0:SH}(hr:fn.results= #[.tmp k])(hk:cC G k=some t):
  AT ⟨P,⟨N,[]⟩,B,w0,S0,none⟩ (bodyPost P fn (KA ⟨P,⟨N,[]⟩,B,w0,S0,none⟩ t)) .ret O G:=fun _ _ S st=>
 ⟨st.facts.defers,_,tu P fn k hr _ _,_,S,rfl,st.ext,st.sat,st.facts.at_ k t hk⟩
def tT(ts:List Ty):Ty where
 p:=fun S v=> ∃vs,v= .tuple vs.toArray/\xH S ts vs
 mono:=fun h k=>by obtain⟨vs,e,k⟩:=k;exact⟨vs,e,xH.mono h k⟩
def Dj(P:Program)(fn:Func)(j k:Nat)(h:fn.results= #[.tmp j,.tmp k])(tmps:Array Value)(w:World):(results fn tmps).run P w= .ok (.tuple #[tmps.getD j undef,tmps.getD k undef]) w:=by
 simp [results,h]
def cg{P:Program}{N:Nat}{B:Nat->Prop}{w0:World}{S0:SH}{u:Ty}(hr:fn.results= #[.tmp j,.tmp k])(hj:cC G j=some t)(hk:cC G k=some u):
  AT ⟨P,⟨N,[]⟩,B,w0,S0,none⟩ (bodyPost P fn (KA ⟨P,⟨N,[]⟩,B,w0,S0,none⟩ (tT [t,u]))) .ret O G:=fun _ _ S st=>
 ⟨st.facts.defers,_,Dj P fn j k hr _ _,_,S,rfl,st.ext,st.sat,[_,_],rfl,st.facts.at_ j t hj,st.facts.at_ k u hk,trivial⟩
def A3(P:Program)(fn:Func)(i j k:Nat)(h:fn.results= #[.tmp i,.tmp j,.tmp k])(tmps:Array Value)(w:World):(results fn tmps).run P w= .ok (.tuple #[tmps.getD i undef,tmps.getD j undef,tmps.getD k undef]) w:=by
 simp [results,h]
def zp{P:Program}{N:Nat}{B:Nat->Prop}{w0:World}{S0:SH}{ac u:Ty}(hr:fn.results= #[.tmp i,.tmp j,.tmp k])(hi:cC G i=some ac)(hj:cC G j=some t)(hk:cC G k=some u):
  AT ⟨P,⟨N,[]⟩,B,w0,S0,none⟩ (bodyPost P fn (KA ⟨P,⟨N,[]⟩,B,w0,S0,none⟩ (tT [ac,t,u]))) .ret O G:=fun _ _ S st=>
 ⟨st.facts.defers,_,A3 P fn i j k hr _ _,_,S,rfl,st.ext,st.sat,[_,_,_],rfl,st.facts.at_ i ac hi,st.facts.at_ j t hj,st.facts.at_ k u hk,trivial⟩
def wa(P:Program)(fn:Func)(h:fn.results= #[])(tmps:Array Value)(w:World):(results fn tmps).run P w= .ok (.tuple #[]) w:=by
 simp [results,h]
end

variable{dst:Option Tmp}{g:Option (Nat×Bool)}{k' :IntKind}{xt yt:TypeId}
section
variable{E:En}{ty:TypeId}
def cI.of_run(h: ∀a w S,nm w S->fe E.base E.B w S O->cE E.N S a G->
  ∃v w' S',(execOp a.eval o).run E.P w= .ok (.value v) w' /\la uX w S w' S' /\nm w' S' /\t.p S' v)(hd: ∀c,o.op≠ .defer c:=by intro c h;cases h):cI E O G o t:=fun a w S hs ho hf=>by
 obtain⟨v,w',S',hr,he,hs',hv⟩:=h a w S hs ho hf
 refine⟨hd,?_⟩
 rw [hr]
 exact⟨v,S',rfl,he,hs',hv⟩
def cI.of_pure(h: ∀a w S,nm w S->fe E.base E.B w S O->cE E.N S a G-> ∃v,(execOp a.eval o).run E.P w= .ok (.value v) w/\t.p S v)(hd: ∀c,o.op≠ .defer c:=by intro c h;cases h):cI E O G o t:=
 .of_run (fun a w S hs ho hf=>let⟨v,hr,hv⟩:=h a w S hs ho hf;⟨v,w,S,hr,jS _ _ _,hs,hv⟩) hd

def bT(V:aY E.N G x t):cI E O G ⟨dst,.move x,ty,pos,after,g⟩ t:=
 .of_pure fun a _ S _ _ hf=>⟨a.eval x,rfl,V S a hf⟩
def bU(V:aY E.N G x t):cI E O G ⟨dst,.assign x,ty,pos,after,g⟩ t:=
 .of_pure fun a _ S _ _ hf=>⟨a.eval x,rfl,V S a hf⟩
def y5{c:Operand}(hc:aY E.N G c (tD rB b))(V:b=true->aY E.N G x t)(hy:b=false->aY E.N G y t):cI E O G ⟨dst,.pick c x y,ty,pos,after,g⟩ t:=
 .of_pure fun a _ S _ _ hf=>by
  have X:a.eval c= .bool b:=jc.1 (hc S a hf)
  refine⟨if b then a.eval x else a.eval y,by simp [execOp,X,asBool],?_⟩
  cases b with
  |true=>exact V rfl S a hf
  |false=>exact hy rfl S a hf

section
variable{k:IntKind}{m n:Int}
def C2{P:Program}{op:BinOp}{xt:TypeId}{x y:Operand}{k:IntKind}{m n:Int}:(eqGuard op xt x y (.int k m) (.int k' n)).run P w= .ok () w:=by
 unfold eqGuard
 cases op<;>rfl
def sG{op:BinOp}(V:aY E.N G x (tD (rI k) m))(hy:aY E.N G y (tD (rI k) n))(hv: ∀P w,(binOp op xt (.int k m) (.int k n)).run P w= .ok v w)(D: ∀S,t.p S v):
  cI E O G ⟨dst,.binOp op xt x y yt,ty,pos,after,g⟩ t:=
 .of_pure fun a w S _ _ hf=>by
  have X:a.eval x= .int k m:=eK.1 (V S a hf)
  have K:a.eval y= .int k n:=eK.1 (hy S a hf)
  refine⟨v,?_,D S⟩
  simp [execOp,X,K,C2,hv]
def cW(V:aY E.N G x (tD (rI k) m))(hy:aY E.N G y (tD (rI k) n)):cI E O G ⟨dst,.binOp .add xt x y yt,ty,pos,after,g⟩ (tD (rI k) (k.wrap (m+n))):=
 sG V hy (fun _ _=>by simp [binOp,Op.intArith]) (fun _=>eK.2 rfl)
def dP(V:aY E.N G x (tD (rI k) m))(hy:aY E.N G y (tD (rI k) n)):cI E O G ⟨dst,.binOp .sub xt x y yt,ty,pos,after,g⟩ (tD (rI k) (k.wrap (m-n))):=
 sG V hy (fun _ _=>by simp [binOp,Op.intArith]) (fun _=>eK.2 rfl)
def Ch(V:aY E.N G x (tD (rI k) m))(hy:aY E.N G y (tD (rI k) n)):cI E O G ⟨dst,.binOp .mul xt x y yt,ty,pos,after,g⟩ (tD (rI k) (k.wrap (m*n))):=
 sG V hy (fun _ _=>by simp [binOp,Op.intArith]) (fun _=>eK.2 rfl)
def LJ(V:aY E.N G x (tD (rI k) m))(hy:aY E.N G y (tD (rI k) n))(h0:n≠0):cI E O G ⟨dst,.binOp .quo xt x y yt,ty,pos,after,g⟩ (tD (rI k) (k.wrap (m.tdiv n))):=
 sG V hy (fun _ _=>by simp [binOp,Op.intDiv,h0]) (fun _=>eK.2 rfl)
def WO(V:aY E.N G x (tD (rI k) m))(hy:aY E.N G y (tD (rI k) n))(h0:n≠0):cI E O G ⟨dst,.binOp .rem xt x y yt,ty,pos,after,g⟩ (tD (rI k) (m.tmod n)):=
 sG V hy (fun _ _=>by simp [binOp,Op.intDiv,h0]) (fun _=>eK.2 rfl)
def fH(V:aY E.N G x (tD (rI k) m))(hy:aY E.N G y (tD (rI k) n)):cI E O G ⟨dst,.binOp .lss xt x y yt,ty,pos,after,g⟩ (tD rB (decide (m<n))):=
 sG V hy (fun _ _=>by simp [binOp,Op.intCmp]) (fun _=>jc.2 rfl)
def eY(V:aY E.N G x (tD (rI k) m))(hy:aY E.N G y (tD (rI k) n)):cI E O G ⟨dst,.binOp .leq xt x y yt,ty,pos,after,g⟩ (tD rB (decide (m<=n))):=
 sG V hy (fun _ _=>by simp [binOp,Op.intCmp]) (fun _=>jc.2 rfl)
def dD(V:aY E.N G x (tD (rI k) m))(hy:aY E.N G y (tD (rI k) n)):cI E O G ⟨dst,.binOp .gtr xt x y yt,ty,pos,after,g⟩ (tD rB (decide (n<m))):=
 sG V hy (fun _ _=>by simp [binOp,Op.intCmp]) (fun _=>jc.2 rfl)
def dB(V:aY E.N G x (tD (rI k) m))(hy:aY E.N G y (tD (rI k) n)):cI E O G ⟨dst,.binOp .geq xt x y yt,ty,pos,after,g⟩ (tD rB (decide (n<=m))):=
 sG V hy (fun _ _=>by simp [binOp,Op.intCmp]) (fun _=>jc.2 rfl)
def di(V:aY E.N G x (tD (rI k) m))(hy:aY E.N G y (tD (rI k) n)):cI E O G ⟨dst,.binOp .eql xt x y yt,ty,pos,after,g⟩ (tD rB (m==n)):=
 sG V hy (fun _ _=>by simp [binOp,Op.intCmp]) (fun _=>jc.2 rfl)
def du(V:aY E.N G x (tD (rI k) m))(hy:aY E.N G y (tD (rI k) n)):cI E O G ⟨dst,.binOp .neq xt x y yt,ty,pos,after,g⟩ (tD rB (m !=n)):=
 sG V hy (fun _ _=>by simp [binOp,Op.intCmp]) (fun _=>jc.2 rfl)
def tA(op:BinOp)(k:IntKind)(x y:Int):Int:=
 k.wrap (match op with
  | .and=>(BitVec.ofInt k.bits x&&&BitVec.ofInt k.bits y).toNat
  | .or=>(BitVec.ofInt k.bits x|||BitVec.ofInt k.bits y).toNat
  | .xor=>(BitVec.ofInt k.bits x^^^BitVec.ofInt k.bits y).toNat
  |_=>(BitVec.ofInt k.bits x&&& ~~~BitVec.ofInt k.bits y).toNat:Nat)
def WQ(V:aY E.N G x (tD (rI k) m))(hy:aY E.N G y (tD (rI k) n)):cI E O G ⟨dst,.binOp .and xt x y yt,ty,pos,after,g⟩ (tD (rI k) (tA .and k m n)):=
 sG V hy (fun _ _=>by simp [binOp,Op.intBits];rfl) (fun _=>eK.2 rfl)
def Ie(V:aY E.N G x (tD (rI k) m))(hy:aY E.N G y (tD (rI k) n)):cI E O G ⟨dst,.binOp .xor xt x y yt,ty,pos,after,g⟩ (tD (rI k) (tA .xor k m n)):=
 sG V hy (fun _ _=>by simp [binOp,Op.intBits];rfl) (fun _=>eK.2 rfl)
def J3{op:BinOp}(V:aY E.N G x (tD (rI k) m))(hy:aY E.N G y (tD (rI k') n))(hv: ∀P w,(binOp op xt (.int k m) (.int k' n)).run P w= .ok v w)(D: ∀S,t.p S v):
  cI E O G ⟨dst,.binOp op xt x y yt,ty,pos,after,g⟩ t:=
 .of_pure fun a w S _ _ hf=>by
  have X:a.eval x= .int k m:=eK.1 (V S a hf)
  have K:a.eval y= .int k' n:=eK.1 (hy S a hf)
  refine⟨v,?_,D S⟩
  simp [execOp,X,K,C2,hv]
def WK(V:aY E.N G x (tD (rI k) m))(hy:aY E.N G y (tD (rI k') n))(h0:0<=n):cI E O G ⟨dst,.binOp .shl xt x y yt,ty,pos,after,g⟩ (tD (rI k) (k.wrap (m*2^(min n.toNat k.bits)))):=
 J3 V hy (fun _ _=>by simp [binOp,Op.shift,Int.not_lt.2 h0]) (fun _=>eK.2 rfl)
def Ak(V:aY E.N G x (tD (rI k) m))(hy:aY E.N G y (tD (rI k') n))(h0:0<=n):cI E O G ⟨dst,.binOp .shr xt x y yt,ty,pos,after,g⟩ (tD (rI k) (m.fdiv (2^(min n.toNat k.bits)))):=
 J3 V hy (fun _ _=>by simp [binOp,Op.shift,Int.not_lt.2 h0]) (fun _=>eK.2 rfl)
def WP(V:aY E.N G x (tD (rI k) m)):cI E O G ⟨dst,.unOp .xor xt x,ty,pos,after,g⟩ (tD (rI k) (tA .xor k (if k.signed then -1 else k.max) m)):=
 .of_pure fun a w S _ _ hf=>by
  have X:a.eval x= .int k m:=eK.1 (V S a hf)
  exact⟨_,by simp [execOp,X,Op.unary,Op.intBits];rfl,eK.2 rfl⟩
def fG(V:aY E.N G x (tD rB b)):cI E O G ⟨dst,.unOp .not xt x,ty,pos,after,g⟩ (tD rB (!b)):=
 .of_pure fun a w S _ _ hf=>by
  have X:a.eval x= .bool b:=jc.1 (V S a hf)
  exact⟨.bool (!b),by simp [execOp,X,Op.unary],jc.2 rfl⟩
def c0{st dt:TypeId}{aR:TypeDesc}(hs:E.P.underlying st=some aR)(hd:E.P.underlying dt=some (.int k'))(V:aY E.N G x (tD (rI k) m)):
  cI E O G ⟨dst,.convert st dt x,ty,pos,after,g⟩ (tD (rI k') (k'.wrap m)):=
 .of_pure fun a w S _ _ hf=>by
  have X:a.eval x= .int k m:=eK.1 (V S a hf)
  refine⟨.int k' (k'.wrap m),?_,eK.2 rfl⟩
  simp only [execOp,X,convert,uU,j3 hs,j3 hd,vY]
  cases aR<;>simp [Conv.intToInt]
end

def wd{P:Program}{t:TypeId}(D:P.underlying t=some .bool)(aR:Nat)(b c:Bool)(w:World):(Op.equalIn (aR+1) t (.bool b) (.bool c)).run P w= .ok (b==c) w:=by
 simp [Op.equalIn,j3 D]
def yX{P:Program}{t:TypeId}{x y:Value}(H: ∀aR,(Op.equalIn (aR+1) t x y).run P w= .ok b w):(Op.equal t x y).run P w= .ok b w:=H 9999
section
def Ig{c:Bool}(D:E.P.underlying xt=some .bool)(V:aY E.N G x (tD rB b))(hy:aY E.N G y (tD rB c)):cI E O G ⟨dst,.binOp .eql xt x y yt,ty,pos,after,g⟩ (tD rB (b==c)):=
 .of_pure fun a w S _ _ hf=>by
  have X:a.eval x= .bool b:=jc.1 (V S a hf)
  have K:a.eval y= .bool c:=jc.1 (hy S a hf)
  exact⟨.bool (b==c),by simp [execOp,X,K,eqGuard,binOp,yX (fun aR=>wd D aR b c w)],jc.2 rfl⟩
def TE{c:Bool}(D:E.P.underlying xt=some .bool)(V:aY E.N G x (tD rB b))(hy:aY E.N G y (tD rB c)):cI E O G ⟨dst,.binOp .neq xt x y yt,ty,pos,after,g⟩ (tD rB (b !=c)):=
 .of_pure fun a w S _ _ hf=>by
  have X:a.eval x= .bool b:=jc.1 (V S a hf)
  have K:a.eval y= .bool c:=jc.1 (hy S a hf)
  exact⟨.bool (b !=c),by simp [execOp,X,K,eqGuard,binOp,yX (fun aR=>wd D aR b c w)];cases b<;>cases c<;>rfl,jc.2 rfl⟩
def WJ{op:BinOp}{u:N1}(V:aY E.N G x (tD rS ac))(hy:aY E.N G y (tD rS u))(hv: ∀P w,(Op.stringOp op ⟨ac.toArray⟩ ⟨u.toArray⟩).run P w= .ok (.bool b) w)(Y: ∀P w,(eqGuard op xt x y (.string ⟨ac.toArray⟩) (.string ⟨u.toArray⟩)).run P w= .ok () w)(H: ∀P w,(binOp op xt (.string ⟨ac.toArray⟩) (.string ⟨u.toArray⟩)).run P w=(Op.stringOp op ⟨ac.toArray⟩ ⟨u.toArray⟩).run P w):
  cI E O G ⟨dst,.binOp op xt x y yt,ty,pos,after,g⟩ (tD rB b):=
 .of_pure fun a w S _ _ hf=>by
  have X:a.eval x= .string ⟨ac.toArray⟩:=B9.1 (V S a hf)
  have K:a.eval y= .string ⟨u.toArray⟩:=B9.1 (hy S a hf)
  refine⟨.bool b,?_,jc.2 rfl⟩
  simp [execOp,X,K,Y,H,hv]
def Dv{u:N1}(V:aY E.N G x (tD rS ac))(hy:aY E.N G y (tD rS u)):cI E O G ⟨dst,.binOp .eql xt x y yt,ty,pos,after,g⟩ (tD rB (ac==u)):=
 WJ V hy (fun _ _=>by simp [Op.stringOp]) (fun _ _=>rfl) (fun _ _=>rfl)
end
end

def Rr:TypeDesc->Bool
 | .struct _| .array _ _=>true
 |_=>false
structure TI(P:Program)(T:TypeId)(sz bytes:Nat)(agg:Bool)(z:List Value):Prop where
 info:(P.info? T).map (fun i=>(i.zero.map (·.cells.toList),i.size,i.bytes))=some (some z,sz,bytes)
 ag:(P.underlying T).map Rr=some agg
variable{T:TypeId}{bytes:Nat}{z:List Value}
section
variable{P:Program}{sz:Nat}{agg:Bool}
def TI.get(h:TI P T sz bytes agg z): ∃i zv,P.info? T=some i/\i.size=sz/\i.bytes=bytes/\i.zero=some zv/\zv.cells=z.toArray:=by
 have:=h.info
 cases hi:P.info? T with
 |none=>rw [hi]at this;simp at this
 |some i=>
  rw [hi]at this
  simp only [xB,Option.some.injEq,Prod.mk.injEq,FM]at this
  obtain⟨⟨zv,X,K⟩,h3,h4⟩:=this
  exact⟨i,zv,rfl,h3,h4,X,by rw [<-K]⟩
def TI.sizeOf(h:TI P T sz bytes agg z)(w:World):(Go.sizeOf T).run P w= .ok sz w:=by
 obtain⟨i,zv,X,K,_⟩:=h.get
 simp [Go.sizeOf,typeInfo,X,K]
def TI.isAgg(h:TI P T sz bytes agg z)(w:World):(Go.isAgg T).run P w= .ok agg w:=by
 have:=h.ag
 cases hi:P.underlying T with
 |none=>rw [hi]at this;simp at this
 |some aR=>
  rw [hi]at this
  simp only [xB,Option.some.injEq]at this
  simp only [Go.isAgg,uU,j3 hi,vY]
  rw [<-this]
  cases aR<;>simp [Rr]
def TI.zero(h:TI P T sz bytes agg z)(w:World): ∃zv,(zeroValue T).run P w= .ok zv w/\zv.cells=z.toArray:=by
 obtain⟨i,zv,X,_,_,h4,h5⟩:=h.get
 exact⟨zv,by simp [zeroValue,typeInfo,X,h4],h5⟩
end

def jR(b off i:Nat):(⟨b,off,none⟩:Addr).add i=⟨b,off+i,none⟩:=by
 unfold Addr.add
 split
 ·simp_all
 ·rfl
def xh{b:Nat}{c:Array Value}(h:w.heap[b]? =some (.cells c T fr))(i:Nat):w.cell? ⟨b,i,none⟩=c[i]? :=by
 simp [World.cell?,h]
def wb{P:Program}{b n:Nat}{c:Array Value}(h:w.heap[b]? =some (.cells c T fr))(hcs:(c.toList.drop off).take n=cs)(hl:cs.length=n):
  (loadCells ⟨b,off,none⟩ n).run P w= .ok cs.toArray w:=by
 rw [<-hl]
 refine run_loadCells_list w ⟨b,off,none⟩ cs fun j v hv=>?_
 rw [jR,xh h]
 have hj:j<cs.length:=(tp.1 hv).1
 rw [<-hcs,zu (by omega),wF]at hv
 simpa using hv
variable{U:TypeId}{rest:List Oper}
def ko{P:Program}{b:Nat}{c:Array Value}{sz:Nat}{agg:Bool}(ti:TI P U sz bytes agg z)(h:w.heap[b]? =some (.cells c T fr)){r:Rp α}(hsz:r.sz=sz)(hag:r.agg=agg){x:α}(V:r.rc S ((c.toList.drop off).take r.sz) x):
  (loadVar U ⟨b,off,none⟩).run P w= .ok (r.val ((c.toList.drop off).take r.sz)) w:=by
 have hl:=r.len V
 subst hsz
 subst hag
 simp only [loadVar,uU,ti.isAgg,vY]
 cases ha:r.agg with
 |true=>simp [ti.sizeOf,wb h rfl hl,Rp.val,ha]
 |false=>
  have X:=r.sc ha
  have hcell:w.cell? ⟨b,off,none⟩=some (((c.toList.drop off).take r.sz).headD undef):=by
   rw [xh h]
   rw [X]at hl ⊢
   cases hd:c.toList.drop off with
   |nil=>rw [hd]at hl;simp at hl
   |cons v rest=>
    have:(c.toList.drop off)[0]? =some v:=by rw [hd];rfl
    rw [wF]at this
    simpa using this
  simp [hcell,Rp.val,ha]

variable{ats:Array TypeId}{q:Rp β}
section
variable{E:En}{ty:TypeId}
def ej{r:Rp α}{x:α}{p:Operand}{sz:Nat}{agg:Bool}(ti:TI E.P U sz bytes agg z)(hsz:r.sz=sz)(hag:r.agg=agg)(hp:aY E.N G p (ck r x)):
  cI E O G ⟨dst,.load U p,ty,pos,after,g⟩ (tD r x):=
 .of_pure fun a w S hs _ hf=>by
  obtain⟨b,off,c,T,fr,X,K,h3⟩:=hp S a hf
  obtain⟨c',h4,h5⟩:=hs.part K (r.len h3)
  rw [<-h5]at h3
  refine⟨r.val ((c'.toList.drop off).take r.sz),?_,_,rfl,h3⟩
  simp [execOp,X,Instr.loadAt,Instr.sureAddr,ko ti h4 hsz hag h3]

def Vi(ac:N1):(ByteArray.mk ac.toArray).size=ac.length:=by simp [ByteArray.size]
def eS{r:Rp α}{t:TypeId}(D:E.P.underlying t=some (.slice e))(V:aY E.N G x (tD (f6 r) xs)):
  cI E O G ⟨dst,.call ⟨.builtin .len,#[x],#[t]⟩,ty,pos,after,g⟩ (tD (rI .i64) (xs.length:Int)):=
 .of_pure fun a w S _ _ hf=>by
  obtain⟨ad,cap,X,_⟩:=mf.1 (V S a hf)
  refine⟨.int .i64 xs.length,?_,eK.2 rfl⟩
  simp [execOp,resolve,invoke,builtin,Builtin.len_,j3 D,X,goInt]
def Bi{t:TypeId}(D:E.P.underlying t=some .string)(V:aY E.N G x (tD rS ac)):
  cI E O G ⟨dst,.call ⟨.builtin .len,#[x],#[t]⟩,ty,pos,after,g⟩ (tD (rI .i64) (ac.length:Int)):=
 .of_pure fun a w S _ _ hf=>by
  have X:a.eval x= .string ⟨ac.toArray⟩:=B9.1 (V S a hf)
  refine⟨.int .i64 ac.length,?_,eK.2 rfl⟩
  simp [execOp,resolve,invoke,builtin,Builtin.len_,j3 D,X,goInt,Vi]

def gB{α:Type}(xs:List α)(i:Int):Option α:=if 0<=i then xs[i.toNat]? else none
def eu(xs:List α)(i:Nat):gB xs (i:Int)=xs[i]? :=by simp [gB]
def OG{r:Rp α}{a:Option Addr}(h:GC r S a xs){x:α}(V:xs[i]? =some x):
  ∃b off c T fr,a=some ⟨b,off,none⟩/\S b=some (.cells c T fr)/\r.rc S ((c.toList.drop (off+i*r.sz)).take r.sz) x:=by
 rcases h with rfl|⟨b,off,c,T,fr,e1,e2,e3⟩
 ·simp at V
 ·refine⟨b,off,c,T,fr,e1,e2,?_⟩
  have h:=A9 e3 V
  have hi:i<xs.length:=(tp.1 V).1
  rw [zC,AI,uV]at h
  have:min r.sz (xs.length*r.sz-i*r.sz)=r.sz:=by
   rw [<-Nat.sub_mul]
   have:1*r.sz<=(xs.length-i)*r.sz:=AN _ (by omega)
   omega
  rw [this]at h
  exact h
def fJ{r:Rp α}{y:α}{ix:Operand}{t:TypeId}{k:IntKind}{i:Int}{sz:Nat}{agg:Bool}(D:E.P.underlying t=some (.slice e))(ti:TI E.P e sz bytes agg z)(hsz:r.sz=sz)(V:aY E.N G x (tD (f6 r) xs))(hi:aY E.N G ix (tD (rI k) i))(hy:gB xs i=some y):
  cI E O G ⟨dst,.indexAddr t x ix,ty,pos,after,g⟩ (ck r y):=
 .of_pure fun a w S _ _ hf=>by
  obtain⟨ad,cap,X,_,_,K⟩:=mf.1 (V S a hf)
  have h3:a.eval ix= .int k i:=eK.1 (hi S a hf)
  have h0:0<=i:=by unfold gB at hy;split at hy;assumption;cases hy
  have hy' :xs[i.toNat]? =some y:=by unfold gB at hy;rw [bJ h0]at hy;exact hy
  have hlt:i.toNat<xs.length:=(tp.1 hy').1
  obtain⟨b,off,c,T,fr,e1,e2,e3⟩:=OG K hy'
  subst e1
  refine⟨.pointer (some ⟨b,off+i.toNat*r.sz,none⟩),?_,b,_,c,T,fr,rfl,e2,e3⟩
  have hc:0<=i/\i<(xs.length:Int):=⟨h0,by omega⟩
  simp [execOp,X,h3,Instr.indexAt,asIntOf,j3 D,hc,ti.sizeOf,jR,hsz]

def md{α β:Type}(r:Rp α)(off:Nat)(q:Rp β)(get:α->β):Prop:= ∀S cs x,r.rc S cs x->q.rc S ((cs.drop off).take q.sz) (get x)
def bZ(P:Program)(T:TypeId)(i:Nat):Option (Nat×Nat):=
 match P.underlying T with
 |some (.struct fs)=>(fs[i]?).bind fun f=>(P.info? f.type).map fun q=>(f.offset,q.size)
 |_=>none
def GK{P:Program}{sz:Nat}(h:bZ P T i=some (off,sz)): ∃fs f,P.underlying T=some (.struct fs)/\fs[i]? =some f/\f.offset=off/\ ∀w,(sizeOf f.type).run P w= .ok sz w:=by
 unfold bZ at h
 split at h
 ·rename_i fs hu
  cases hf:fs[i]? with
  |none=>rw [hf]at h;simp at h
  |some f=>
   rw [hf]at h
   cases hq:P.info? f.type with
   |none=>simp [hq]at h
   |some q=>
    simp [hq]at h
    exact⟨fs,f,hu,hf,h.1,fun w=>by simp [sizeOf,typeInfo,hq,h.2]⟩
 ·cases h
def fj{r:Rp α}{get:α->β}{x:α}{sz:Nat}{p:Operand}(hf:bZ E.P T i=some (off,sz))(h0:Nat.beq sz 0=false)(hq:md r off q get)(hoff:Nat.ble (off+q.sz) r.sz=true)(hp:aY E.N G p (ck r x)):cI E O G ⟨dst,.fieldAddr T p i,ty,pos,after,g⟩ (ck q (get x)):=
 .of_pure fun a w S _ _ hF=>by
  obtain⟨b,o,c,U,fr,X,K,h3⟩:=hp S a hF
  obtain⟨fs,f,e1,e2,e3,e4⟩:=GK hf
  have h0' :sz≠0:=fun e=>by subst e;simp at h0
  have hoff' :off+q.sz<=r.sz:=sn hoff
  refine⟨.pointer (some ⟨b,o+off,none⟩),?_,b,_,c,U,fr,rfl,K,?_⟩
  ·simp [execOp,X,Instr.fieldAt,j3 e1,e2,Instr.sureAddr,fieldPlace,e4,h0',e3,jR]
  ·have:=hq S _ x h3
   rw [zC,AI,uV,xK (by omega)]at this
   exact this
def ah(P:Program)(f:FuncId):Bool:=
 match P.funcs[f]? with
 |some fn=> !(fn.name== "runtime.NumGoroutine")&&fn.body.isSome
 |none=>false
def jf{P:Program}(h:ah P f=true)(args:Array Value)(w:World):(callFunc f args).run P w= .ok (.enter f args) w:=by
 unfold ah at h
 cases hf:P.funcs[f]? with
 |none=>rw [hf]at h;cases h
 |some fn=>
  rw [hf]at h
  simp only [pt,DI]at h
  have X:fn.name≠ "runtime.NumGoroutine" :=by simpa using h.1
  have K:fn.body≠none:=fun e=>by rw [e]at h;simp at h
  simp [callFunc,hf,X,K]
def lv(N:Fr)(G:mV):List Operand->List Ty->Prop
 |[],[]=>True
 |x::xs,t::ts=>aY N G x t/\lv N G xs ts
 |_,_=>False
def lv.tys{N:Fr}(hF:cE N S a G): ∀{xs:List Operand} {ts:List Ty},lv N G xs ts->xH S ts (xs.map a.eval)
 |[],[],_=>trivial
 |_::_,_::_,⟨X,K⟩=>⟨X S a hF,lv.tys hF K⟩
def cD{xs:List Operand}(hc:ah E.P f=true)(hs:cX E.P f ts t)(V:lv E.N G xs ts):
  cI E O G ⟨dst,.call ⟨.value (.func f),xs.toArray,ats⟩,ty,pos,after,g⟩ t:=fun a w S hS _ hF=>by
 have hr:(execOp a.eval ⟨dst,.call ⟨.value (.func f),xs.toArray,ats⟩,ty,pos,after,g⟩).run E.P w= .ok (.enter f (xs.map a.eval).toArray) w:=by
  simp [execOp,resolve,Act.eval,Deferred.ofValue,invoke,jf hc]
 refine⟨fun c h=>(by cases h),?_⟩
 rw [hr]
 exact(hs w S _ hS (V.tys hF)).mono fun e w' ⟨v,S',he,X,K,h3⟩=>⟨v,he,v,S',rfl,X,K,h3⟩
end

def oQ{o:Obj}(h:k<w.heap.size):(w.alloc o).heap[k]? =w.heap[k]? :=RowKit.Below.heap_alloc w o k h
def SH.set(S:SH)(b:Nat)(o:Obj):SH:=fun k=>if k=b then some o else S k
def nU(S:SH)(b:Nat)(o:Obj):S.set b o b=some o:=bJ rfl
def sR(S:SH){b:Nat}(o:Obj)(h:k≠b):S.set b o k=S k:=bk h
def ww{b:Nat}{o:Obj}(h: ∀q,S b=some q->IY q o):SH.le S (S.set b o):=fun k q hq=>by
 by_cases hk:k=b
 ·subst hk;exact⟨o,nU _ _ _,h q hq⟩
 ·exact⟨q,by rw [sR _ _ hk];exact hq,uA q⟩
def nm.set(h:nm w S){b:Nat}{o:Obj}(X:w.heap[b]? =some o')(K:IY o o')(h3: ∀q,S b=some q->IY q o):nm w (S.set b o):=by
 refine⟨fun k q hq=>?_,fun p hp=>?_,fun w' hw' =>h.tb w' fun k q hq=>?_⟩
 ·by_cases hk:k=b
  ·subst hk
   rw [nU]at hq
   cases hq
   exact⟨o',X,K⟩
  ·rw [sR _ _ hk]at hq;exact h k q hq
 ·obtain⟨c,T,fr,g1,g2⟩:=h.gl p hp
  by_cases hk:p.1=b
  ·subst hk
   obtain⟨aR,hd⟩:=h3 _ g1
   refine⟨_,T,fr,by rw [nU,hd],?_⟩
   rw [List.toList_toArray,Dh ?_]
   ·exact g2
   ·have:=congrArg List.length g2
    rw [DE]at this
    omega
  ·exact⟨c,T,fr,by rw [sR _ _ hk];exact g1,g2⟩
 ·by_cases hk:k=b
  ·subst hk
   obtain⟨o1,g1,g2⟩:=hw' k o (nU _ _ _)
   exact⟨o1,g1,GV (h3 q hq) g2⟩
  ·exact hw' k q (by rw [sR _ _ hk];exact hq)
def ki(o:Obj)(hs:nm w S):la uX w S (w.alloc o) S/\nm (w.alloc o) S/\S w.heap.size=none:=by
 refine⟨⟨rfl,rfl,rfl,eJ _,by simp,fun k hk _=>oQ hk,SH.le_refl _,fun _ _ _=>rfl⟩,hs.same fun b q H=>oQ (hs.lt H),?_⟩
 cases h:S w.heap.size with
 |none=>rfl
 |some q=>have:=hs.lt h;omega
def vA(o:Obj)(hs:nm w S):la uX w S (w.alloc o) (S.set w.heap.size o)/\nm (w.alloc o) (S.set w.heap.size o):=by
 obtain⟨X,K,h3⟩:=ki o hs
 refine⟨⟨rfl,rfl,rfl,eJ _,by simp,fun k hk _=>oQ hk,ww fun q hq=>(by rw [h3]at hq;cases hq),fun k hk _=>sR _ _ (by omega)⟩,K.set (xS w o) (uA o) fun q hq=>by rw [h3]at hq;cases hq⟩
def yP(hs:nm w S):la uX w S w.drew S/\nm w.drew S:=⟨⟨rfl,rfl,rfl,Nat.le_succ _,eJ _,fun _ _ _=>rfl,SH.le_refl _,fun _ _ _=>rfl⟩,hs.same fun _ _ _=>rfl⟩

def ay(l:Option Nat)(cap n:Nat):Value:=
 match l with
 |none=> .slice none 0 0
 |some b=> .slice (some ⟨b,0,none⟩) n cap
def zU(w:World)(T:TypeId)(sz:Nat)(l:Option Nat)(cap n:Nat)(cells:List Value):Prop:=
 match l with
 |none=>n=0/\cells=[]
 |some b=> ∃cur,w.heap[b]? =some (.cells cur T (0,0))/\n<=cap/\cap<=maxLen/\cur.size=cap*sz/\cur.toList.take (n*sz)=cells
def AE{α:Type}(m:Bool)(r:Rp α)(T:TypeId)(l:Option Nat)(cap:Nat)(xs:List α)(w:World)(S:SH):Prop:=
 ∃cells,zU w T r.sz l cap xs.length cells/\sh r S cells xs/\ ∀b,l=some b->S b=if m then some (.cells cells.toArray T (0,0))else none
def zU.lt{sz b n:Nat}(h:zU w T sz (some b) cap n cells):b<w.heap.size:=by
 obtain⟨cur,X,_⟩:=h
 exact(Hz.1 X).1
def zU.ext{sz n:Nat}(h:zU w T sz l cap n cells)(k: ∀b,l=some b->w'.heap[b]? =w.heap[b]?):zU w' T sz l cap n cells:=by
 cases l with
 |none=>exact h
 |some b=>
  obtain⟨cur,X,K⟩:=h
  exact⟨cur,by rw [k b rfl];exact X,K⟩
def nd{α:Type}(m:Bool)(r:Rp α)(T:TypeId)(l:Option Nat)(cap:Nat)(xs:List α):OE where
 fp:=fun k=>l=some k
 p:=AE m r T l cap xs
 here:=by
  intro w S h k hk
  subst hk
  obtain⟨cells,X,_⟩:=h
  exact X.lt
 kept:=by
  intro C w w' S S' h k hC
  obtain⟨cells,X,K,h3⟩:=h
  refine⟨cells,X.ext fun b H=>?_,s9 k.keep K,fun b H=>?_⟩
  ·subst H;exact k.heap b X.lt (hC b rfl)
  ·subst H;rw [k.old b X.lt (hC b rfl)];exact h3 b rfl
abbrev db{α:Type}(r:Rp α)(T:TypeId)(l:Option Nat)(cap:Nat)(xs:List α):OE:=nd false r T l cap xs
abbrev tip{α:Type}(r:Rp α)(T:TypeId)(l:Option Nat)(cap:Nat)(xs:List α):OE:=nd true r T l cap xs
def app{α:Type}(xs ys:List α):Option (List α):=if xs.length+ys.length<=68719476736 then some (xs++ys)else none
variable{zs:List α}
def Su(h:app xs ys=some zs):zs=xs++ys/\xs.length+ys.length<=68719476736:=by
 unfold app at h
 split at h
 ·exact⟨by simpa using h.symm,by assumption⟩
 ·cases h
variable{news:List Value}
def zx{P:Program}{t tx ty:TypeId}{i:TypeInfo}(D:P.underlying t=some (.slice e))(hi:P.info? e=some i){g sLen sCap:Nat}{cur:Array Value}(Y:w.heap[g]? =some (.cells cur e (0,0))){x:Value}{n:Nat}(hs:Src P i.size tx x n news w)(hroom:sLen+n<=sCap)(hfit:sLen*i.size+news.length<=cur.size):
  (Builtin.append_ #[t,tx] ty #[.slice (some ⟨g,0,none⟩) sLen sCap,x]).run P w=
   .ok (.slice (some ⟨g,0,none⟩) (sLen+n) sCap) (w.setRow g (cur.toList.take (sLen*i.size)++news++cur.toList.drop (sLen*i.size+news.length)).toArray):=by
 have hst:=run_storeCells_at P g (sLen*i.size) e news 0 cur w Y (by simpa using hfit) hs.one
 simp only [CK]at hst
 rcases hs.kind with⟨e',hk⟩|hk<;>simp [Builtin.append_,j3 D,j3 hk,sizeOf,typeInfo,hi,hs.len,hroom,hs.cells,Addr.add_lit,hst]
structure V6(l:Option Nat)(w w' :World):Prop where
 os:w'.os=w.os
 tape:w'.tape=w.tape
 output:w'.output=w.output
 drawn:w.drawn<=w'.drawn
 size:w.heap.size<=w'.heap.size
 heap: ∀k,k<w.heap.size->l≠some k->w'.heap[k]? =w.heap[k]?
variable{t' :TypeId}
def Eo{P:Program}{t ty:TypeId}{sz:Nat}{agg:Bool}{n m:Nat}{x:Value}(ti:TI P T sz bytes agg z)(hz:Nat.beq z.length sz=true)(h0:Nat.blt 0 sz=true)(h128:Nat.ble bytes 2048=true)(D:P.underlying t=some (.slice T))(h:zU w T sz l cap n cells)(hs:Src P sz t' x m news w)(hlen:n+m<=68719476736):
  ∃l' cap' w',(Builtin.append_ #[t,t'] ty #[ay l cap n,x]).run P w= .ok (ay l' cap' (n+m)) w' /\zU w' T sz l' cap' (n+m) (cells++news)/\V6 l w w' /\(∀b,l' =some b->l=some b\/w.heap.size<=b)/\(∀b,l=some b->l' ≠some b->w'.heap[b]? =w.heap[b]?):=by
 obtain⟨i,zv,hi,X,K,h3,h4⟩:=ti.get
 have h128' :=sn h128
 have h0' :0<sz:=by simpa [vD] using h0
 have hz2:z.length=sz:=qy hz
 subst X
 have hnl:=hs.newsLen
 have hbytes:(n+m)*i.bytes<=140737488355328:=xR (Nat.mul_le_mul hlen (by omega:i.bytes<=2048)) (by omega)
 by_cases hm:m=0
 ·subst hm
  have hn0:news=[]:=tH (by simpa using hnl)
  subst hn0
  refine⟨l,cap,w,?_,by simpa using h,⟨rfl,rfl,rfl,eJ _,eJ _,fun _ _ _=>rfl⟩,fun b H=> .inl H,fun b _ _=>rfl⟩
  cases l with
  |none=>
   obtain⟨rfl,_⟩:=h
   exact run_append_nothing w t t' ty T i D hi none 0 0 (eJ _) _ hs
  |some b=>
   obtain⟨cur,_,hle,_⟩:=h
   exact run_append_nothing w t t' ty T i D hi (some ⟨b,0,none⟩) n cap hle _ hs
 have Xd: ∀old,old<n+m->Builtin.nextslicecap (n+m) old*i.bytes<=281474976710656:=fun old ho=>growslice_fits ho hbytes
 -- a new row
 have fresh: ∀(base:Option Addr) (olds:List Value),ay l cap n= .slice base n cap->olds=cells->cap<n+m->(Builtin.firstCells i.size n (.slice base n cap)).run P w.drew= .ok olds.toArray w.drew->cells.length=n*i.size->
   ∃l' cap' w',(Builtin.append_ #[t,t'] ty #[ay l cap n,x]).run P w= .ok (ay l' cap' (n+m)) w' /\zU w' T i.size l' cap' (n+m) (cells++news)/\V6 l w w' /\(∀b,l' =some b->l=some b\/w.heap.size<=b)/\(∀b,l=some b->l' ≠some b->w'.heap[b]? =w.heap[b]?):=by
  intro base olds hv he Y hf hcl
  subst he
  have hr:=run_append_grow_src (P:=P) w t t' ty T i zv D hi h3 base n cap olds hf x m news hs Y (by omega) (Xd cap Y)
  have hge:=grownCap_ge w (n+m) cap T
  rw [<-hv]at hr
  refine⟨some w.heap.size,grownCap w (n+m) cap T,_,hr,⟨_,xS w.drew _,hge,grownCap_le_maxLen _ _ _ _ (by simp only [maxLen];omega),?_,?_⟩,⟨rfl,rfl,rfl,Nat.le_succ _,by simp,fun k hk _=>?_⟩,fun b H=> .inr (AR (rE H)),fun b H _=>?_⟩
  ·have:(Builtin.zeroCells zv.cells (grownCap w (n+m) cap T-(n+m))).size=(grownCap w (n+m) cap T-(n+m))*i.size:=by
    rw [size_zeroCells,h4];simp [hz2]
   simp only [Array.size_append,Gh,mq,hcl,hnl,this]
   rw [<-xI,<-xI]
   congr 1;omega
  ·have hl2:(olds++news).length=(n+m)*i.size:=by rw [mq,hcl,hnl,xI]
   rw [Array.toList_append,Dh (by simp only [List.toList_toArray];omega)]
   simp only [List.toList_toArray]
   exact uj (by omega)
  ·exact oQ (w:=w.drew) hk
  ·cases l with
   |none=>cases H
   |some b0=>
    have hb' :b0=b:=rE H
    subst hb'
    exact oQ (w:=w.drew) (zU.lt h)
 cases l with
 |none=>
  obtain⟨rfl,rfl⟩:=h
  have:=run_append_grow_src (P:=P) w t t' ty T i zv D hi h3 none 0 0 [] (run_firstCells_none w.drew i.size 0 0 0) x m news hs (by omega) (by omega) (Xd 0 (by omega))
  have hge:=grownCap_ge w (0+m) 0 T
  refine⟨some w.heap.size,grownCap w (0+m) 0 T,_,this,⟨_,xS w.drew _,hge,grownCap_le_maxLen _ _ _ _ (by simp only [maxLen];omega),?_,?_⟩,⟨rfl,rfl,rfl,Nat.le_succ _,by simp,fun k hk _=>?_⟩,fun b H=> .inr (AR (rE H)),fun b H=>(by cases H)⟩
  ·have:(Builtin.zeroCells zv.cells (grownCap w (0+m) 0 T-(0+m))).size=(grownCap w (0+m) 0 T-(0+m))*i.size:=by
    rw [size_zeroCells,h4];simp [hz2]
   simp only [Array.size_append,Gh,oY,hnl,this]
   rw [<-xI]
   congr 1;omega
  ·rw [Array.toList_append,Dh (by simp [hnl])]
   simp only [oY,uT]
   exact uj (by omega)
  ·exact oQ (w:=w.drew) hk
 |some b=>
  obtain⟨cur,H,hle,hmax,hcs,hct⟩:=h
  have hcl:cells.length=n*i.size:=by
   rw [<-hct,DE,CN,hcs]
   exact xK (AN _ hle)
  by_cases hroom:n+m<=cap
  ·have hfit:n*i.size+news.length<=cur.size:=by rw [hnl,hcs,<-xI];exact AN _ hroom
   have hr:=zx (t:=t) (tx:=t') (ty:=ty) D hi H hs hroom hfit
   refine⟨some b,cap,_,hr,⟨_,setRow_heap w b cur _ T _ H,hroom,hmax,?_,?_⟩,⟨rfl,rfl,rfl,eJ _,by simp [World.setRow],fun k hk hkb=>setRow_other w b k _ (fun e=>hkb (by rw [e]))⟩,fun b' hb' => .inl hb',fun b' hb' hne=>absurd hb' hne⟩
   ·simp only [Gh,mq,DE,De,CN]
    omega
   ·rw [hct,xI,<-hnl,<-hcl,show cells.length+news.length=(cells++news).length from by simp]
    exact List.take_left
  ·refine fresh (some ⟨b,0,none⟩) cells rfl rfl (by omega) (run_firstCells_some w.drew i.size n ⟨b,0,none⟩ n cap cells hcl fun j v hv=>?_) hcl
   have hj:j<cells.length:=(tp.1 hv).1
   have hcell:w.cell? ⟨b,j,none⟩=cur[j]? :=xh H j
   rw [jR]
   show w.cell? ⟨b,0+j,none⟩=_
   rw [uT,hcell]
   rw [<-hct,zu (by omega)]at hv
   simpa using hv
def u6{P:Program}{r:Rp α}{e' :TypeId}(D:P.underlying t' =some (.slice e'))(hs:nm w S)(hv:(tD (f6 r) ys).p S v): ∃news,Src P r.sz t' v ys.length news w/\sh r S news ys:=by
 obtain⟨ad,c2,rfl,hcap,hmax,hsl⟩:=mf.1 hv
 rcases hsl with rfl|⟨b,off,c,U,fr,e1,e2,e3⟩
 ·refine⟨[],?_,rfl⟩
  cases ad with
  |none=>exact .ofNil w D c2
  |some a=>exact .ofSlice w D a 0 c2 [] (by simp) (fun j u hu=>by simp at hu) (fun u hu=>by cases hu)
 ·subst e1
  obtain⟨c',h4,h5⟩:=hs.part e2 (ll e3)
  refine⟨_,.ofSlice w D ⟨b,off,none⟩ ys.length c2 _ (ll e3) (fun j u hu=>?_) (yZ e3),e3⟩
  rw [jR,xh h4]
  rw [<-h5]at hu
  have hj:j<ys.length*r.sz:=by
   have:=(tp.1 hu).1
   simp at this;omega
  rw [zu hj,wF]at hu
  simpa using hu
def mj(ac:N1):List Int:=ac.map fun b=>(b.toNat:Int)
def GP{S:SH}: ∀ac:N1,sh (rI .u8) S (ac.map fun b=>Value.int .u8 b.toNat) (mj ac)
 |[]=>rfl
 |b::ac=>⟨[.int .u8 b.toNat],_,rfl,rfl,GP ac⟩
def Ll{P:Program}(D:P.underlying t' =some .string)(hv:(tD rS ac).p S v): ∃news,Src P (rI .u8).sz t' v (mj ac).length news w/\sh (rI .u8) S news (mj ac):=by
 have e:=B9.1 hv
 subst e
 refine⟨_,?_,GP ac⟩
 have:=Src.ofString (P:=P) w D ⟨ac.toArray⟩
 have e1:(ByteArray.mk ac.toArray).size=(mj ac).length:=by simp [ByteArray.size,mj]
 rw [e1]at this
 simpa [byteCells,rI] using this
variable{mm:Bool}
def ya{P:Program}{r:Rp α}{t ty:TypeId}{sz:Nat}{agg:Bool}{base:Nat}{B:Nat->Prop}(ti:TI P T sz bytes agg z)(hsz:r.sz=sz)(hz:Nat.beq z.length sz=true)(h0:Nat.blt 0 sz=true)(h128:Nat.ble bytes 2048=true)(D:P.underlying t=some (.slice T))(hs:nm w S)(h:(nd mm r T l cap xs).holds base B w S)(H:base<=w.heap.size)(hsrc:Src P r.sz t' v ys.length news w)(hrc:sh r S news ys)(hz' :app xs ys=some zs):
  ∃l' cap' w' S',(Builtin.append_ #[t,t'] ty #[ay l cap xs.length,v]).run P w= .ok (ay l' cap' zs.length) w' /\la (fun k=>l=some k) w S w' S' /\nm w' S' /\(nd mm r T l' cap' zs).holds base B w' S' /\(∀b,l' =some b->l=some b\/w.heap.size<=b):=by
 subst hsz
 obtain⟨rfl,hlen⟩:=Su hz'
 obtain⟨⟨cells,X,K,h3⟩,hbase⟩:=h
 obtain⟨l',cap',w',hr,hraw,Y,hnew,hold⟩:=Eo (ty:=ty) ti hz h0 h128 D X hsrc hlen
 have hrc' :sh r S (cells++news) (xs++ys):=sD K hrc
 -- what stood settled stands
 have hsat0: ∀k o,S k=some o-> ∃o',w'.heap[k]? =some o' /\IY o o' :=fun k o hk=>by
  have hlt:=hs.lt hk
  by_cases hkl:l=some k
  ·obtain⟨o',e1,e2⟩:=hs k o hk
   by_cases hkl' :l' =some k
   ·subst hkl'
    subst hkl
    have h3' :=h3 k rfl
    cases mm with
    |false=>rw [h3']at hk;cases hk
    |true=>
     rw [h3']at hk
     cases hk
     obtain⟨cur',g1,g2,g3,g4,g5⟩:=hraw
     refine⟨_,g1,?_⟩;refine⟨news++cur'.toList.drop ((xs.length+ys.length)*r.sz),?_⟩
     congr 1
     apply Array.ext'
     rw [<-pe,<-g5,ui]
   ·rw [hold k hkl hkl'];exact hs k o hk
  ·rw [Y.heap k hlt hkl];exact hs k o hk
 have hsat:nm w' S:=⟨hsat0,hs.gl,hs.tb⟩
 have hSn: ∀b,l' =some b->l≠some b->S b=none:=fun b hb' hne=>by
  cases hq:S b with
  |none=>rfl
  |some q=>
   have:=hs.lt hq
   rcases hnew b hb' with h|h
   ·exact absurd h hne
   ·omega
 have hbase' : ∀k,l' =some k->base<=k\/B k:=fun k hk=>by
  rcases hnew k hk with h|h
  ·exact hbase k h
  ·exact .inl (by omega)
 have hz2:(xs++ys).length=xs.length+ys.length:=mq
 cases mm with
 |false=>
  refine⟨l',cap',w',S,by rw [hz2];exact hr,⟨Y.os,Y.tape,Y.output,Y.drawn,Y.size,fun k hk hkb=>Y.heap k hk hkb,SH.le_refl _,fun _ _ _=>rfl⟩,hsat,⟨⟨cells++news,by rw [hz2];exact hraw,hrc',fun b hb' =>?_⟩,hbase'⟩,hnew⟩
  by_cases hlb:l=some b
  ·exact h3 b hlb
  ·exact hSn b hb' hlb
 |true=>
  cases l' with
  |none=>
   refine⟨none,cap',w',S,by rw [hz2];exact hr,⟨Y.os,Y.tape,Y.output,Y.drawn,Y.size,fun k hk hkb=>Y.heap k hk hkb,SH.le_refl _,fun _ _ _=>rfl⟩,hsat,⟨⟨cells++news,by rw [hz2];exact hraw,hrc',fun b hb' =>(by cases hb')⟩,hbase'⟩,hnew⟩
  |some g=>
   have hq3: ∀q,S g=some q->IY q (.cells (cells++news).toArray T (0,0)):=fun q hq=>by
    by_cases hlb:l=some g
    ·have h4:S g=some (.cells cells.toArray T (0,0)):=h3 g hlb
     rw [h4]at hq
     cases hq
     exact⟨news,by simp⟩
    ·rw [hSn g rfl hlb]at hq;cases hq
   have hle:SH.le S (S.set g (.cells (cells++news).toArray T (0,0))):=ww hq3
   obtain⟨cur',g1,g2,g3,g4,g5⟩:=hraw
   refine⟨some g,cap',w',S.set g (.cells (cells++news).toArray T (0,0)),by rw [hz2];exact hr,⟨Y.os,Y.tape,Y.output,Y.drawn,Y.size,fun k hk hkb=>Y.heap k hk hkb,hle,fun k hk hkb=>sR _ _ ?_⟩,hsat.set g1 ?_ hq3,⟨⟨cells++news,by rw [hz2];exact⟨cur',g1,g2,g3,g4,g5⟩,s9 hle hrc',fun b hb' =>?_⟩,hbase'⟩,hnew⟩
   ·rintro rfl
    rcases hnew k rfl with h|h
    ·exact hkb h
    ·omega
   ·refine⟨cur'.toList.drop ((xs.length+ys.length)*r.sz),?_⟩
    congr 1
    apply Array.ext'
    rw [<-g5,ui]
   ·have hb2:g=b:=rE hb'
    subst hb2
    exact nU _ _ _

def Mz{e f:OE}(h:e.apart f):f.apart e:=fun b H he=>h b he H
def fe.swap{base:Nat}{B:Nat->Prop}{e f:OE}(h:fe base B w S (e::f::O)):fe base B w S (f::e::O):=by
 obtain⟨X,K,h3,h4,h5⟩:=h
 refine⟨h3,?_,X,?_,h5⟩
 ·intro g Y
  rcases kj.1 Y with rfl|Y
  ·exact Mz (K _ (qa ..))
  ·exact h4 g Y
 ·intro g Y
  exact K g (ry _ Y)
def wx{base:Nat}{B:Nat->Prop}{e:OE}{O' :List OE}(h:fe base B w S (e::O))(k:fe base B w S O->fe base B w S O')(hm: ∀f∈O',f∈O):fe base B w S (e::O'):=
 ⟨h.1,fun f hf=>h.2.1 f (hm f hf),k h.2.2⟩
def sS{base:Nat}{B:Nat->Prop}{a b c:OE}(h:fe base B w S (a::b::c::O)):fe base B w S (c::a::b::O):=
 (wx h fe.swap (fun f hf=>by simp only [kj]at hf ⊢;rcases hf with h|h|h<;>simp [h])).swap
def uR{base:Nat}{B:Nat->Prop}{a b c aR:OE}(h:fe base B w S (a::b::c::aR::O)):fe base B w S (aR::a::b::c::O):=
 (wx h sS (fun f hf=>by simp only [kj]at hf ⊢;rcases hf with h|h|h|h<;>simp [h])).swap
def uQ{base:Nat}{B:Nat->Prop}{a b c aR e:OE}(h:fe base B w S (a::b::c::aR::e::O)):fe base B w S (e::a::b::c::aR::O):=
 (wx h uR (fun f hf=>by simp only [kj]at hf ⊢;rcases hf with h|h|h|h|h<;>simp [h])).swap

section
variable{E:En}
def St.own_map{O' :List OE}(h:St E O G a w S)(k:fe E.base E.B w S O->fe E.base E.B w S O'):St E O' G a w S:=⟨h.ext,h.sat,k h.own,h.facts⟩
def St.base_le(h:St E O G a w S):E.base<=w.heap.size:=h.ext.size
def St.drop{e:OE}(h:St E (e::O) G a w S):St E O G a w S:=h.own_map fun h=>h.2.2
def St.fresh(mm:Bool)(r:Rp α)(T:TypeId)(h:St E O G a w S):St E (nd mm r T none 0 []::O) G a w S:=
 h.own_map fun h=>by refine⟨⟨⟨[],⟨rfl,rfl⟩,rfl,fun b H=>(by cases H)⟩,fun k hk=>?_⟩,fun f _ b H=>?_,h⟩<;>(first|cases hk|cases H)
def Ac{e:OE}{b:Nat}{o:Obj}(h:St E (e::O) G a w S)(H:e.fp b)(ho:w.heap[b]? =some o')(hoo:IY o o')(hn:S b=none):St E O G a w (S.set b o)/\SH.le S (S.set b o)/\la (fun k=>k=b) w S w (S.set b o)/\nm w (S.set b o):=by
 have hbase:=h.own.1.2 b H
 have hle:SH.le S (S.set b o):=ww fun q hq=>(by rw [hn]at hq;cases hq)
 have hsat:nm w (S.set b o):=h.sat.set ho hoo fun q hq=>by rw [hn]at hq;cases hq
 have hext:la (fun k=>k=b) w S w (S.set b o):=⟨rfl,rfl,rfl,eJ _,eJ _,fun _ _ _=>rfl,hle,fun k _ hk=>sR _ _ hk⟩
 refine⟨⟨h.ext.step hext fun c hc=>by subst hc;exact hbase,hsat,h.own.2.2.ext hext fun f hf c hc hm=>?_,h.facts.mono hle⟩,hle,hext,hsat⟩
 subst hm
 exact h.own.2.1 f hf c H hc
def tO{α:Type}(r:Rp α)(l:Option Nat)(cap:Nat)(xs:List α):Ty where
 p:=fun S v=>v=ay l cap xs.length/\(tD (f6 r) xs).p S v
 mono:=fun h ⟨X,K⟩=>⟨X,Ty.mono _ h K⟩
def xV{N:Fr}{G:mV}{r:Rp α}(h:aY N G x (tO r l cap xs)):aY N G x (M (ay l cap xs.length)):=fun S a hf=>(h S a hf).1
def mX{N:Fr}{G:mV}{r:Rp α}(h:aY N G x (tO r l cap xs)):aY N G x (tD (f6 r) xs):=fun S a hf=>(h S a hf).2
def nr{r:Rp α}{w:World}{S:SH}(h:AE true r T l cap xs w S):(tD (f6 r) xs).p S (ay l cap xs.length):=by
 obtain⟨cells,X,K,h3⟩:=h
 cases l with
 |none=>
  have V:xs=[]:=tH X.1
  subst V
  exact HM
 |some b=>
  obtain⟨cur,g1,g2,g3,g4,g5⟩:=X
  refine mf.2 ⟨_,cap,rfl,g2,g3,.inr ⟨b,0,cells.toArray,T,(0,0),rfl,h3 b rfl,?_⟩⟩
  have:=ll K
  rw [zr,uj (by simp [this])]
  exact K
def St.freeze{r:Rp α}(h:St E (db r T l cap xs::O) G a w S):
  ∃S',St E (tip r T l cap xs::O) G a w S' :=by
 obtain⟨⟨cells,X,K,h3⟩,hbase⟩:=h.own.1
 cases l with
 |none=>exact⟨S,h.ext,h.sat,⟨⟨⟨cells,X,K,fun b H=>(by cases H)⟩,hbase⟩,h.own.2⟩,h.facts⟩
 |some b=>
  obtain⟨cur,g1,g2,g3,g4,g5⟩:=X
  have hoo:IY (.cells cells.toArray T (0,0)) (.cells cur T (0,0)):=by
   refine⟨cur.toList.drop (xs.length*r.sz),?_⟩
   congr 1
   apply Array.ext'
   rw [<-g5,ui]
  obtain⟨h8,hle,_,_⟩:=Ac h rfl g1 hoo (h3 b rfl)
  refine⟨_,h8.ext,h8.sat,⟨⟨⟨cells,⟨cur,g1,g2,g3,g4,g5⟩,s9 hle K,fun b' hb' =>?_⟩,hbase⟩,h.own.2.1,h8.own⟩,h8.facts⟩
  have hb2:b=b' :=rE hb'
  subst hb2
  exact nU _ _ _
def St.settle{r:Rp α}(h:St E (nd mm r T l cap xs::O) G a w S):
  ∃S',St E O G a w S' /\(tD (f6 r) xs).p S' (ay l cap xs.length):=by
 cases mm with
 |true=>exact⟨S,h.drop,nr h.own.1.1⟩
 |false=>
  obtain⟨S',X⟩:=h.freeze
  exact⟨S',X.drop,nr X.own.1.1⟩
end

section
variable{E:En}{e:Exit}
def L7{N:Fr}(h:cE N S a G)(hk:t.p S (a.tmps.getD k undef)):cE N S a ((k,t)::G):=
 ⟨h.size,h.defers,fun j u hj=>by
  unfold cC at hj
  by_cases H:Nat.beq k j=true
  ·rw [H]at hj
   have:=qy H
   subst this
   rw [<-show t=u from by simpa using hj];exact hk
  ·rw [AL]at H
   rw [H]at hj
   exact h.at_ j u hj⟩
def St.cons(h:St E O G a w S)(hk:t.p S (a.tmps.getD k undef)):St E O ((k,t)::G) a w S:=⟨h.ext,h.sat,h.own,L7 h.facts hk⟩
def St.tipAt{r:Rp α}{n:Nat}(h:St E (tip r T l cap xs::O) G a w S)(hk:cC G k=some (M (ay l cap n)))(hn:n=xs.length):
  St E (tip r T l cap xs::O) ((k,tO r l cap xs)::G) a w S:=by
 subst hn
 have hv:a.tmps.getD k undef=ay l cap xs.length:=h.facts.at_ k _ hk
 exact h.cons ⟨hv,by rw [hv];exact nr h.own.1.1⟩
def ci(mm:Bool)(r:Rp α)(T:TypeId)(h:RG E ops aK rest (nd mm r T none 0 []::O) G):RG E ops aK rest O G:=fun a w S st=>h a w S (st.fresh mm r T)
def zh{f:OE}(h:RG E ops aK rest O G):RG E ops aK rest (f::O) G:=fun a w S st=>h a w S st.drop
def CG.drop{f:OE}(h:CG E aK c O G):CG E aK c (f::O) G:=fun a w S st=>h a w S st.drop
def aV{f:OE}(h:AT E aK e O G):AT E aK e (f::O) G:=fun a w S st=>h a w S st.drop
def bY{x y:OE}(h:RG E ops aK rest (y::x::O) G):RG E ops aK rest (x::y::O) G:=fun a w S st=>h a w S (st.own_map fe.swap)
def am{x y:OE}(h:AT E aK e (y::x::O) G):AT E aK e (x::y::O) G:=fun a w S st=>h a w S (st.own_map fe.swap)
def cZ{x y z:OE}(h:RG E ops aK rest (z::x::y::O) G):RG E ops aK rest (x::y::z::O) G:=fun a w S st=>h a w S (st.own_map sS)
def PM{x y z:OE}(h:CG E aK c (z::x::y::O) G):CG E aK c (x::y::z::O) G:=fun a w S st=>h a w S (st.own_map sS)
def aT{x y z:OE}(h:AT E aK e (z::x::y::O) G):AT E aK e (x::y::z::O) G:=fun a w S st=>h a w S (st.own_map sS)
def kU{x y z:OE}(h:RG E ops aK rest (u::x::y::z::O) G):RG E ops aK rest (x::y::z::u::O) G:=fun a w S st=>h a w S (st.own_map uR)
def ba{x y z:OE}(h:AT E aK e (u::x::y::z::O) G):AT E aK e (x::y::z::u::O) G:=fun a w S st=>h a w S (st.own_map uR)
def j0{x y z v:OE}(h:RG E ops aK rest (v::x::y::z::u::O) G):RG E ops aK rest (x::y::z::u::v::O) G:=fun a w S st=>h a w S (st.own_map uQ)
def eD{x y z v:OE}(h:AT E aK e (v::x::y::z::u::O) G):AT E aK e (x::y::z::u::v::O) G:=fun a w S st=>h a w S (st.own_map uQ)
def lu{f:OE}(h:LG E aK c O G):LG E aK c (f::O) G:=fun a w S st=>h a w S st.drop
def dY{x y:OE}(h:LG E aK c (y::x::O) G):LG E aK c (x::y::O) G:=fun a w S st=>h a w S (st.own_map fe.swap)
def kV{x y z:OE}(h:LG E aK c (z::x::y::O) G):LG E aK c (x::y::z::O) G:=fun a w S st=>h a w S (st.own_map sS)
def gW{x y z:OE}(h:LG E aK c (u::x::y::z::O) G):LG E aK c (x::y::z::u::O) G:=fun a w S st=>h a w S (st.own_map uR)
def CF{x y z v:OE}(h:LG E aK c (v::x::y::z::u::O) G):LG E aK c (x::y::z::u::v::O) G:=fun a w S st=>h a w S (st.own_map uQ)
def ic{r:Rp α}(h:RG E ops aK rest (tip r T l cap xs::O) G):RG E ops aK rest (db r T l cap xs::O) G:=fun a w _ st=>let⟨S',st'⟩:=st.freeze;h a w S' st'
def fT{r:Rp α}{n:Nat}(k:Nat)(hk:cC G k=some (M (ay l cap n)))(h:RG E ops aK rest (tip r T l cap xs::O) ((k,tO r l cap xs)::G))(hn:n=xs.length:=by rfl):RG E ops aK rest (tip r T l cap xs::O) G:=fun a w S st=>h a w S (st.tipAt hk hn)
def PN{r:Rp α}(h:CG E aK c (tip r T l cap xs::O) G):CG E aK c (db r T l cap xs::O) G:=fun a w _ st=>let⟨S',st'⟩:=st.freeze;h a w S' st'
def FE{r:Rp α}{n:Nat}(k:Nat)(hk:cC G k=some (M (ay l cap n)))(h:CG E aK c (tip r T l cap xs::O) ((k,tO r l cap xs)::G))(hn:n=xs.length:=by rfl):CG E aK c (tip r T l cap xs::O) G:=fun a w S st=>h a w S (st.tipAt hk hn)
def dq{r:Rp α}(h:AT E aK e (tip r T l cap xs::O) G):AT E aK e (db r T l cap xs::O) G:=fun a w _ st=>let⟨S',st'⟩:=st.freeze;h a w S' st'
def bP{r:Rp α}{n:Nat}(k:Nat)(hk:cC G k=some (M (ay l cap n)))(h:AT E aK e (tip r T l cap xs::O) ((k,tO r l cap xs)::G))(hn:n=xs.length:=by rfl):AT E aK e (tip r T l cap xs::O) G:=fun a w S st=>h a w S (st.tipAt hk hn)
def bo{r:Rp α}(hk:cC G k=some (tD (f6 r) xs))(h:xs.length<=maxLen->CG E aK c O G):CG E aK c O G:=fun a w S st=>by
 obtain⟨_,_,_,X,K,_⟩:=mf.1 (st.facts.at_ k _ hk)
 exact h (xR X K) a w S st

section
variable{ty:TypeId}
def St.append{r:Rp α}{t ty:TypeId}{sz:Nat}{agg:Bool}(ti:TI E.P T sz bytes agg z)(hsz:r.sz=sz)(hz:Nat.beq z.length sz=true)(h0:Nat.blt 0 sz=true)(h128:Nat.ble bytes 2048=true)(D:E.P.underlying t=some (.slice T))(st:St E (nd mm r T l cap xs::O) G a w S)(hsrc:Src E.P r.sz t' v ys.length news w)(hrc:sh r S news ys)(happ:app xs ys=some zs):
  ∃l' cap' w' S',(Builtin.append_ #[t,t'] ty #[ay l cap xs.length,v]).run E.P w= .ok (ay l' cap' zs.length) w' /\St E (nd mm r T l' cap' zs::O) G a w' S' :=by
 obtain⟨l',cap',w',S',hr,hext,hsat,hh,hnew⟩:=ya (ty:=ty) ti hsz hz h0 h128 D st.sat st.own.1 st.base_le hsrc hrc happ
 refine⟨l',cap',w',S',hr,st.ext.step hext fun b H=>st.own.1.2 b H,hsat,⟨hh,fun f hf b H hfb=>?_,st.own.2.2.ext hext fun f hf b H hbl=>st.own.2.1 f hf b hbl H⟩,st.facts.mono hext.keep⟩
 rcases hnew b H with h|h
 ·exact st.own.2.1 f hf b h hfb
 ·have:=f.here (fe.mem st.own.2.2 f hf).1 b hfb
  omega
def St.put{aR:Nat}(h:St E O G a w S)(hd:Nat.blt aR E.N.n=true)(hv:t.p S v):St E O ((aR,t)::G) (a.put (some aR) v) w S:=⟨h.ext,h.sat,h.own,h.facts.put hd hv⟩
def xm{r:Rp α}{t:TypeId}{sz:Nat}{agg:Bool}{n:Nat}{u:Nat->Option Nat->Ty}(ti:TI E.P T sz bytes agg z)(hsz:r.sz=sz)(hz:Nat.beq z.length sz=true)(h0:Nat.blt 0 sz=true)(h128:Nat.ble bytes 2048=true)(D:E.P.underlying t=some (.slice T))(hd:Nat.blt aR E.N.n=true)(V:aY E.N G x (M (ay l cap n)))(hy: ∀a w S,St E (nd mm r T l cap xs::O) G a w S-> ∃news,Src E.P r.sz t' (a.eval y) ys.length news w/\sh r S news ys)(happ:app xs ys=some zs)(hu: ∀l' cap' w0 S,(nd mm r T l' cap' zs).p w0 S->(u cap' l').p S (ay l' cap' zs.length))(k: ∀l' cap',RG E ops aK rest (nd mm r T l' cap' zs::O) ((aR,u cap' l')::G))(hn:n=xs.length):
  RG E ops aK (⟨some aR,.call ⟨.builtin .append,#[x,y],#[t,t']⟩,ty,pos,after,none⟩::rest) (nd mm r T l cap xs::O) G:= .of rfl fun a w S st=>by
 subst hn
 have X:a.eval x=ay l cap xs.length:=V S a st.facts
 obtain⟨news,K,h3⟩:=hy a w S st
 obtain⟨l',cap',w',S',hr,st'⟩:=st.append (ty:=ty) ti hsz hz h0 h128 D K h3 happ
 have hrun:(execOp a.eval ⟨some aR,.call ⟨.builtin .append,#[x,y],#[t,t']⟩,ty,pos,after,none⟩).run E.P w= .ok (.value (ay l' cap' zs.length)) w' :=by
  simp [execOp,resolve,invoke,builtin,X,hr]
 refine⟨fun c h=>(by cases h),?_⟩
 rw [hrun]
 exact k l' cap' _ _ S' (st'.put hd (hu l' cap' w' S' st'.own.1.1))
def bD{r:Rp α}{t:TypeId}{sz:Nat}{agg:Bool}{n:Nat}(ti:TI E.P T sz bytes agg z)(hsz:r.sz=sz)(hz:Nat.beq z.length sz=true)(h0:Nat.blt 0 sz=true)(h128:Nat.ble bytes 2048=true)(D:E.P.underlying t=some (.slice T))(ht' :t' =t)(hd:Nat.blt aR E.N.n=true)(V:aY E.N G x (M (ay l cap n)))(hy:aY E.N G y (tD (f6 r) ys))(happ:app xs ys=some zs)(k: ∀l' cap',RG E ops aK rest (db r T l' cap' zs::O) ((aR,M (ay l' cap' zs.length))::G))(hn:n=xs.length:=by rfl):
  RG E ops aK (⟨some aR,.call ⟨.builtin .append,#[x,y],#[t,t']⟩,ty,pos,after,none⟩::rest) (db r T l cap xs::O) G:=by
 subst ht'
 exact xm (u:=fun cap' l' =>M (ay l' cap' zs.length)) ti hsz hz h0 h128 D hd V (fun a w S st=>u6 D st.sat (hy S a st.facts)) happ (fun _ _ _ _ _=>rfl) k hn
def oo{r:Rp α}{t:TypeId}{sz:Nat}{agg:Bool}(ti:TI E.P T sz bytes agg z)(hsz:r.sz=sz)(hz:Nat.beq z.length sz=true)(h0:Nat.blt 0 sz=true)(h128:Nat.ble bytes 2048=true)(D:E.P.underlying t=some (.slice T))(ht' :t' =t)(hd:Nat.blt aR E.N.n=true)(V:aY E.N G x (tO r l cap xs))(hy:aY E.N G y (tD (f6 r) ys))(happ:app xs ys=some zs)(k: ∀l' cap',RG E ops aK rest (tip r T l' cap' zs::O) ((aR,tO r l' cap' zs)::G)):
  RG E ops aK (⟨some aR,.call ⟨.builtin .append,#[x,y],#[t,t']⟩,ty,pos,after,none⟩::rest) (tip r T l cap xs::O) G:=by
 subst ht'
 exact xm (u:=fun cap' l' =>tO r l' cap' zs) ti hsz hz h0 h128 D hd (xV V) (fun a w S st=>u6 D st.sat (hy S a st.facts)) happ (fun _ _ _ _ h=>⟨rfl,nr h⟩) k rfl
def Fv{t:TypeId}{agg:Bool}{n:Nat}{xs zs:List Int}(ti:TI E.P T 1 bytes agg z)(hz:Nat.beq z.length 1=true)(h128:Nat.ble bytes 2048=true)(D:E.P.underlying t=some (.slice T))(ht' :E.P.underlying t' =some .string)(hd:Nat.blt aR E.N.n=true)(V:aY E.N G x (M (ay l cap n)))(hy:aY E.N G y (tD rS ac))(happ:app xs (mj ac)=some zs)(k: ∀l' cap',RG E ops aK rest (db (rI .u8) T l' cap' zs::O) ((aR,M (ay l' cap' zs.length))::G))(hn:n=xs.length:=by rfl):
  RG E ops aK (⟨some aR,.call ⟨.builtin .append,#[x,y],#[t,t']⟩,ty,pos,after,none⟩::rest) (db (rI .u8) T l cap xs::O) G:=
 xm (r:=rI .u8) (u:=fun cap' l' =>M (ay l' cap' zs.length)) ti rfl hz rfl h128 D hd V (fun a w S st=>Ll ht' (hy S a st.facts)) happ (fun _ _ _ _ _=>rfl) k hn
end
end

def Bz(off:Nat): ∀(cs:List Value) (k:Nat) (pre mid post:List Value),mid.length=cs.length->pre.length=off+k->
  (cs.zipIdx k).foldl (fun(a:Array Value) x=>a.setIfInBounds (off+x.2) x.1) (pre++mid++post).toArray=(pre++cs++post).toArray
 |[],k,pre,mid,post,hm,_=>by
  have:mid=[]:=tH hm
  subst this;simp
 |c::cs,k,pre,mid,post,hm,hp=>by
  cases mid with
  |nil=>simp at hm
  |cons m mid=>
   simp only [List.zipIdx_cons,List.foldl_cons]
   have X:(pre++(m::mid)++post).toArray.setIfInBounds (off+k) c=((pre++[c])++mid++post).toArray:=by
    rw [<-hp]
    simp
   rw [X,Bz off cs (k+1) (pre++[c]) mid post (by simpa using hm) (by simp;omega)]
   simp
def A1(v:Value)(off:Nat)(pre mid post:List Value)(hm:mid.length=v.cells.size)(hp:pre.length=off):
  v.cells.zipIdx.foldl (fun cs (x:Value×Nat)=>cs.setIfInBounds (off+x.2) x.1) (pre++mid++post).toArray=(pre++v.cells.toList++post).toArray:=by
 have:=Bz off v.cells.toList 0 pre mid post (by simpa using hm) (by simpa using hp)
 rw [<-this,<-Array.foldl_toList]
 simp [Array.toList_zipIdx]
def v7{r:Rp α}{x:α}(h:r.rc S cs x):(r.val cs).cells=cs.toArray:=by
 unfold Rp.val
 cases ha:r.agg with
 |true=>simp [Value.cells]
 |false=>
  have hl:=r.len h
  rw [r.sc ha]at hl
  match cs,hl with
  |[c],_=>
   have:=r.one h c (by simp)
   cases c<;>simp_all [Value.cells,Value.oneCell']
def C4:Nat->List Value->List (Nat×Value)
 |_,[]=>[]
 |k,v::vs=>(k,v)::C4 (k+1) vs
def E0{α:Type}{r:Rp α}{S:SH}: ∀(ys:List α) (vs:List Value) (k:Nat) (pre zs:List Value),xH S (ys.map (tD r)) vs->pre.length=k*r.sz->zs.length=ys.length*r.sz->
  ∃cs,sh r S cs ys/\Instr.fill (fun i=>some (i*r.sz,r.sz)) (pre++zs).toArray (C4 k vs)=some (pre++cs).toArray
 |[],[],k,pre,zs,_,_,hz=>by
  have:zs=[]:=tH (by simpa using hz)
  subst this
  exact⟨[],rfl,by simp [C4,Instr.fill]⟩
 |y::ys,v::vs,k,pre,zs,⟨⟨c,e,hc⟩,K⟩,hp,hz=>by
  have hl:=r.len hc
  have hz' :r.sz<=zs.length:=by rw [hz,iG,xI];omega
  have e1:zs=zs.take r.sz++zs.drop r.sz:=(ui _ _).symm
  have hcells:v.cells=c.toArray:=by rw [e];exact v7 hc
  obtain⟨cs,h3,h4⟩:=E0 ys vs (k+1) (pre++c) (zs.drop r.sz) K (by rw [mq,hp,hl,xI];omega) (by rw [De,hz,iG,xI];omega)
  refine⟨c++cs,⟨c,cs,rfl,hc,h3⟩,?_⟩
  have hs:v.cells.size=r.sz:=by rw [hcells];simpa using hl
  have hcond: ¬((v.cells.size≠r.sz)\/(k*r.sz+v.cells.size>(pre++zs).toArray.size)):=by
   simp [hs];omega
  have h5:=A1 v (k*r.sz) pre (zs.take r.sz) (zs.drop r.sz) (by simp [hs];omega) hp
  rw [pe,<-e1]at h5
  simp only [C4,Instr.fill]
  rw [bk (by simpa using hcond)]
  rw [h5,hcells]
  simpa using h4
def zT:Nat->List Operand->List (Nat×Operand)
 |_,[]=>[]
 |k,v::vs=>(k,v)::zT (k+1) vs
def Cy(ρ:Operand->Value): ∀(k:Nat) (xs:List Operand),(zT k xs).map (fun x=>(x.1,ρ x.2))=C4 k (xs.map ρ)
 |_,[]=>rfl
 |k,x::xs=>by simp [zT,C4,Cy ρ (k+1) xs]

section
variable{E:En}{ty:TypeId}
def xZ{P:Program}{r:Rp α}{xs:List Operand}{ρ:Operand->Value}{t:TypeId}{n sz:Nat}{agg:Bool}(D:P.underlying t=some (.slice T))(ti:TI P T sz bytes agg z)(hsz:r.sz=sz)(hn:n=ys.length)(H:Nat.ble (n*sz) 16777216=true)(V:xH S (ys.map (tD r)) (xs.map ρ))(w:World):
  ∃cs,sh r S cs ys/\(Instr.buildSlice t n ((zT 0 xs).toArray.map fun x=>(x.1,ρ x.2))).run P w= .ok (.slice (some ⟨w.heap.size,0,none⟩) n n) (w.alloc (.cells cs.toArray T (0,0))):=by
 subst hsz
 have hb' :=sn H
 obtain⟨zv,hzr,_⟩:=ti.zero w
 obtain⟨cs,hc,hfill⟩:=E0 ys (xs.map ρ) 0 [] ((Array.range (n*r.sz)).map (fun i=>(if n*r.sz=0 then #[]else zv.cells)[i%(if n*r.sz=0 then #[]else zv.cells).size]!)).toList V (by simp) (by simp [hn])
 refine⟨cs,hc,?_⟩
 have hparts:((zT 0 xs).toArray.map fun x=>(x.1,ρ x.2)).toList=C4 0 (xs.map ρ):=by simp [Cy]
 simp only [oY,Array.toArray_toList]at hfill
 have hle: ¬(n*r.sz>2^24):=by omega
 by_cases hn0:n*r.sz=0
 ·simp only [hn0,mG]at hfill
  simp only [Instr.buildSlice,uU,j3 D,vY,ti.sizeOf,Sem.run_ite,hn0,mG,Sem.run_pure,hparts,hfill]
  simp [newRow]
 ·simp only [hn0,oV]at hfill
  simp only [Instr.buildSlice,uU,j3 D,vY,ti.sizeOf,Sem.run_ite,hle,oV,hn0,Sem.run_pure,hzr,hparts,hfill]
  simp [newRow]
def aI{r:Rp α}{xs:List Operand}{parts:List (Nat×Operand)}{t:TypeId}{n sz:Nat}{agg:Bool}(D:E.P.underlying t=some (.slice T))(ti:TI E.P T sz bytes agg z)(hsz:r.sz=sz)(h0:Nat.blt 0 sz=true)(hp:parts=zT 0 xs)(hn:n=ys.length)(H:Nat.ble (n*sz) 16777216=true)(V:lv E.N G xs (ys.map (tD r))):cI E O G ⟨dst,.buildSlice t n parts.toArray,ty,pos,after,g⟩ (tD (f6 r) ys):=
 .of_run fun a w S hs _ hf=>by
  obtain⟨cs,hc,hr⟩:=xZ D ti hsz hn H (V.tys hf) w
  subst hsz
  have hb' :=sn H
  have h0' :0<r.sz:=by simpa [vD] using h0
  have hnle:n<=n*r.sz:=Nat.le_mul_of_pos_right n h0'
  obtain⟨he,hs'⟩:=vA (w:=w) (.cells cs.toArray T (0,0)) hs
  have hcl:=ll hc
  refine⟨.slice (some ⟨w.heap.size,0,none⟩) n n,_,_,?_,he,hs',mf.2 ⟨_,n,by rw [hn],by omega,by simp only [maxLen];omega,.inr ⟨w.heap.size,0,cs.toArray,T,(0,0),rfl,by simp [SH.set],?_⟩⟩⟩
  ·subst hp
   simp only [execOp,uU,hr,vY,Sem.run_pure]
  ·have:sh r (S.set w.heap.size (.cells cs.toArray T (0,0))) cs ys:=s9 he.keep hc
   simpa [<-hcl] using this
def Q8{r:Rp α}{v:α}(V:aY E.N G x (tD r v)):cI E O G ⟨dst,.box T x,ty,pos,after,g⟩ (ck r v):=
 .of_run fun a w S hs _ hf=>by
  obtain⟨cs,hv,hc⟩:=V S a hf
  obtain⟨he,hs'⟩:=vA (w:=w) (.cells cs.toArray T (0,0)) hs
  refine⟨.pointer (some ⟨w.heap.size,0,none⟩),_,_,?_,he,hs',w.heap.size,0,cs.toArray,T,(0,0),rfl,by simp [SH.set],?_⟩
  ·simp [execOp,Instr.box,newVar,newRow,hv,v7 hc]
  ·have:=r.mono he.keep hc
   have hl:=r.len hc
   simpa [<-hl] using this
end

def qg(c:Bool)(t:Ty):Ty where
 p:=fun S v=>if c=true then t.p S v else v=undef
 mono:=fun h k=>by
  split
  ·rename_i hc;rw [bJ hc]at k;exact t.mono h k
  ·rename_i hc;rw [bk hc]at k;exact k
variable{gs:Nat}{pol:Bool}
section
variable{E:En}
def bl{N:Fr}{c:Bool}(h:cC G k=some (qg c t))(hc:c=true):aY N G (.tmp k) t:=fun _ _ hF=>by
 have K:if c=true then t.p _ (Act.eval _ (.tmp k))else _=undef:=hF.at_ k _ h
 rw [bJ hc]at K;exact K
def vo(c b:Bool):Ty:=qg c (tD rB b)
def ro(h:cC G k=some (tD rB b)):aY E.N G (.tmp k) (vo true b):=fun _ _ hF=>by
 have K:(tD rB b).p _ (Act.eval _ (.tmp k)):=hF.at_ k _ h
 simp only [vo,qg,mG]
 exact K
def Cn{c:Bool}(h:cC G k=some (qg c (tD rB b))):aY E.N G (.tmp k) (vo c b):=fun _ _ hF=>hF.at_ k _ h
def um{c:Bool}(Y:o.guard=some (j,pol))(hj:(ops[j]?).bind (·.dst)=some gs)(hn:gs<a.tmps.size)(hv:(vo c b).p S (a.tmps.getD gs undef)):
  Region.wanted o (yielded ops a.tmps)=(c&&(b==pol)):=by
 have hget:a.tmps[gs]? =some (a.tmps.getD gs undef):=by
  rw [HA,Array.getElem?_eq_getElem hn];rfl
 unfold Region.wanted
 rw [Y]
 simp only [yielded,hj,bG,hget]
 cases c with
 |true=>
  have:a.tmps.getD gs undef= .bool b:=jc.1 (by simpa [vo,qg] using hv)
  rw [this]
  cases b<;>cases pol<;>rfl
 |false=>
  have:a.tmps.getD gs undef=undef:=by simpa [vo,qg] using hv
  rw [this]
  cases pol<;>rfl
def IS{c:Bool}{op:Op}{ty:TypeId}(hj:(ops[j]?).bind (·.dst)=some gs)(hgs:Nat.blt gs E.N.n=true)(Y:aY E.N G (.tmp gs) (vo c b))(hd:Nat.blt aR E.N.n=true)(h:(c&&(b==pol))=true->cI E O G ⟨some aR,op,ty,pos,after,some (j,pol)⟩ t)(k:RG E ops aK rest O ((aR,qg (c&&(b==pol)) t)::G)):
  RG E ops aK (⟨some aR,op,ty,pos,after,some (j,pol)⟩::rest) O G:=fun a w S st=>by
 have hgs' :gs<a.tmps.size:=by rw [st.facts.size];simpa [vD] using hgs
 have hw:=um (o:=⟨some aR,op,ty,pos,after,some (j,pol)⟩) rfl hj hgs' (Y S a st.facts)
 refine wpListIn_step fun h2 hK=>?_
 rw [hw]
 by_cases hc:(c&&(b==pol))=true
 ·rw [bJ hc]
  refine mH (fun a' w' ⟨v,S',ha,he,hs,hv⟩=>?_) (h hc a w S st.sat st.own st.facts)
  subst ha
  refine hK _ _ (k _ _ _ (st.step he hs hd ?_))
  simpa only [qg,hc,mG] using hv
 ·rw [bk hc]
  refine⟨fun _ _=>trivial,hK _ _ (k _ _ S (st.step (jS _ _ _) st.sat hd ?_))⟩
  show if _ then _ else _
  rw [bk hc]
end

structure Nd where
 slot:Nat
 ty:Ty
 src:Option Nat
def cw(E:En)(O:List OE)(ops:Array Oper)(need:mV)(o:Oper)(t:Ty):Prop:=
 ∀a w S,nm w S->fe E.base E.B w S O->cE E.N S a need->
  if Region.wanted o (yielded ops a.tmps)then J0 E.P o a w (fun a' w' => ∃v S',a' =a.put o.dst v/\la uX w S w' S' /\nm w' S' /\t.p S' v)else t.p S undef
def kf:List Nd->mV
 |[]=>[]
 |n::l=>(n.slot,n.ty)::kf l
def CS(o:Oper)(j:Nat):Bool:=o.after.toList.any fun e=>Nat.beq e.on j&&Region.binds .any e
def qA(l:List Oper)(o:Oper)(i:Nat)(n:Nd):Bool:=
 match n.src with
 |some j=>(match l[j]? with|some p=>(match p.dst with|some aR=>Nat.beq aR n.slot|none=>false)|none=>false)&&CS o j
 |none=>l.all fun p=>(match p.dst with|some aR=> !(Nat.beq aR n.slot)|none=>true)||CS p i
def zy(G:mV)(ts:List Ty)(n:Nd):Prop:=
 match n.src with
 |some j=>ts[j]? =some n.ty
 |none=>cC G n.slot=some n.ty
def tn(G:mV)(ts:List Ty):List Nd->Prop
 |[]=>True
 |n::l=>zy G ts n/\tn G ts l
def tn.mem: ∀{l:List Nd},tn G ts l-> ∀n∈l,zy G ts n
 |_::_,⟨h,_⟩,_,.head _=>h
 |_::_,⟨_,h⟩,_,.tail _ hm=>tn.mem h _ hm
def U5(o:Oper):Nat:=o.dst.getD 0
def fv(i:Nat)(o:Oper):Bool:=o.after.toList.all fun e=> !(Region.binds .any e)||Nat.blt e.on i
def DR(E:En)(O:List OE)(G:mV)(l:List Oper)(ts:List Ty):Nat->List Oper->Prop
 |_,[]=>True
 |i,o::rest=>(∃(needs:List Nd) (t:Ty),ts[i]? =some t/\tn G ts needs/\(needs.all (qA l o i))=true/\fv i o=true/\cw E O l.toArray (kf needs) o t)/\DR E O G l ts (i+1) rest
def wL(N:Nat):List Nat->List Oper->Bool
 |_,[]=>true
 |seen,o::rest=>(match o.dst with|some aR=>Nat.blt aR N&& !(seen.any (Nat.beq aR))&&wL N (aR::seen) rest|none=>false)
def acU(E:En)(O:List OE)(G:mV)(l:List Oper)(ts:List Ty)(i:Nat)(o:Oper):Prop:=
 ∃(needs:List Nd) (t:Ty),ts[i]? =some t/\tn G ts needs/\(needs.all (qA l o i))=true/\fv i o=true/\cw E O l.toArray (kf needs) o t
def DR.get{E:En}{l:List Oper}(r:List Oper): ∀(k:Nat),DR E O G l ts k r-> ∀(j:Nat) (o:Oper),r[j]? =some o->acU E O G l ts (k+j) o:=by
 induction r with
 |nil=>intro k _ j o h;simp at h
 |cons p r ih=>
  intro k h j o ho
  cases j with
  |zero=>simp at ho;subst ho;exact h.1
  |succ j=>
   have:=ih (k+1) h.2 j o (by simpa using ho)
   rwa [show k+1+j=k+(j+1)from by omega]at this
def xX{N:Nat}(l:List Oper): ∀(seen:List Nat),wL N seen l=true->
  (∀o:Oper,o∈l-> ∃aR,o.dst=some aR/\aR<N/\aR∉seen)/\ ∀(i j:Nat) (o p:Oper),l[i]? =some o->l[j]? =some p->o.dst=p.dst->i=j:=by
 induction l with
 |nil=>exact fun _ _=>⟨fun _ h=>(by cases h),fun _ _ _ _ h=>(by simp at h)⟩
 |cons o l ih=>
  intro seen h
  unfold wL at h
  cases hd:o.dst with
  |none=>rw [hd]at h;cases h
  |some aR=>
   rw [hd]at h
   simp only [pt,DI]at h
   obtain⟨⟨X,K⟩,h3⟩:=h
   have h2' :aR∉seen:=fun hm=>by
    rw [I3]at K
    exact K aR hm (by simp)
   obtain⟨ih1,ih2⟩:=ih _ h3
   refine⟨fun q hq=>?_,fun i j q p hi hj hdp=>?_⟩
   ·rcases kj.1 hq with rfl|hq
    ·exact⟨aR,hd,by simpa [vD] using X,h2'⟩
    ·obtain⟨d',e1,e2,e3⟩:=ih1 q hq
     exact⟨d',e1,e2,fun hm=>e3 (ry _ hm)⟩
   ·cases i with
    |zero=>
     cases j with
     |zero=>rfl
     |succ j=>
      simp at hi hj
      subst hi
      obtain⟨d',e1,_,e3⟩:=ih1 p (rC hj)
      rw [hd,e1]at hdp
      have e4:aR=d' :=by simpa using hdp
      exact absurd (by rw [e4];exact qa ..) e3
    |succ i=>
     cases j with
     |zero=>
      simp at hi hj
      subst hj
      obtain⟨d',e1,_,e3⟩:=ih1 q (rC hi)
      rw [hd,e1]at hdp
      have e4:d' =aR:=by simpa using hdp
      exact absurd (by rw [e4];exact qa ..) e3
     |succ j=>rw [ih2 i j q p (by simpa using hi) (by simpa using hj) hdp]

structure DJ(E:En)(O:List OE)(G:mV)(l:List Oper)(ts:List Ty)(done:Array Bool)(a:Act)(w:World)(S:SH):Prop where
 ext:la E.B E.w0 E.S0 w S
 sat:nm w S
 own:fe E.base E.B w S O
 size:a.tmps.size=E.N.n
 defers:a.defers=E.N.ds
 dsz:done.size=l.length
 down: ∀j o,l[j]? =some o->done.getD j false=true-> ∀e∈o.after,Region.binds .any e=true->done.getD e.on false=true
 old: ∀k t,cC G k=some t->(∀j o,l[j]? =some o->done.getD j false=true->o.dst≠some k)->t.p S (a.tmps.getD k undef)
 new: ∀j o aR t,l[j]? =some o->done.getD j false=true->o.dst=some aR->ts[j]? =some t->t.p S (a.tmps.getD aR undef)
variable{done:Array Bool}
def DJ.need{E:En}{l:List Oper}(h:DJ E O G l ts done a w S)(hi:l[i]? =some o)(hun:done.getD i true=false)(hwait: ∀e∈o.after,Region.binds .any e=true->done.getD e.on false=true){needs:List Nd}(X:tn G ts needs)(K:(needs.all (qA l o i))=true):cE E.N S a (kf needs):=by
 have hlt:i<done.size:=by rw [h.dsz];exact(tp.1 hi).1
 have hun' :done.getD i false=false:=by
  simp [hlt]at hun ⊢;exact hun
 refine⟨h.size,h.defers,?_⟩
 have key: ∀n∈needs,n.ty.p S (a.tmps.getD n.slot undef):=by
  intro n hn
  have hs:=mo.1 K n hn
  have ho:=X.mem n hn
  unfold qA at hs
  unfold zy at ho
  cases hsrc:n.src with
  |some j=>
   rw [hsrc]at hs ho
   simp only [pt]at hs
   obtain⟨hs1,hs2⟩:=hs
   cases hj:l[j]? with
   |none=>rw [hj]at hs1;cases hs1
   |some p=>
    rw [hj]at hs1
    cases hd:p.dst with
    |none=>simp only [hd]at hs1;cases hs1
    |some aR=>
     simp only [hd]at hs1
     have hd' :=qy hs1
     subst hd'
     have hdone:done.getD j false=true:=by
      unfold CS at hs2
      obtain⟨e,he0,H⟩:=DG.1 hs2
      have he:e∈o.after:=by simpa using he0
      simp only [pt]at H
      have:=hwait e he H.2
      rwa [qy H.1]at this
     exact h.new j p n.slot n.ty hj hdone hd ho
  |none=>
   rw [hsrc]at hs ho
   refine h.old _ _ ho fun j p hj hdone hd=>?_
   have:=mo.1 hs p (rC hj)
   simp only [hd,Nat.beq_refl,ug,vE]at this
   unfold CS at this
   obtain⟨e,he0,H⟩:=DG.1 this
   have he:e∈p.after:=by simpa using he0
   simp only [pt]at H
   have h3:=h.down j p hj hdone e he H.2
   rw [qy H.1]at h3
   rw [h3]at hun'
   cases hun'
 clear X K
 intro k t hk
 induction needs with
 |nil=>simp [kf,cC]at hk
 |cons n needs ih=>
  unfold kf cC at hk
  by_cases H:Nat.beq n.slot k=true
  ·rw [H]at hk
   have:=qy H
   subst this
   have e:n.ty=t:=by simpa using hk
   rw [<-e]
   exact key n (qa ..)
  ·rw [AL]at H
   rw [H]at hk
   exact ih (fun m hm=>key m (ry _ hm)) hk
def LD:List Oper->List Ty->mV->mV
 |o::l,t::ts,G=>(U5 o,t)::LD l ts G
 |_,_,G=>G
def GY(l:List Oper): ∀(ts:List Ty) (k:Nat) (t:Ty),(∀o:Oper,o∈l->o.dst≠none)->ts.length=l.length->cC (LD l ts G) k=some t->
  (∃(j:Nat) (o:Oper),l[j]? =some o/\o.dst=some k/\ts[j]? =some t)\/(cC G k=some t/\ ∀o:Oper,o∈l->o.dst≠some k):=by
 induction l with
 |nil=>
  intro ts k t _ hl h
  have:ts=[]:=tH (by simpa using hl)
  subst this
  exact .inr ⟨h,fun _ h=>(by cases h)⟩
 |cons o l ih=>
  intro ts k t hne hl h
  cases ts with
  |nil=>simp at hl
  |cons u ts=>
   unfold LD cC at h
   by_cases H:Nat.beq (U5 o) k=true
   ·rw [H]at h
    have hk:=qy H
    refine .inl ⟨0,o,rfl,?_,by simpa using h⟩
    cases hd:o.dst with
    |none=>exact absurd hd (hne o (qa ..))
    |some aR=>simp only [U5,hd,Option.getD_some]at hk;rw [hk]
   ·rw [AL]at H
    rw [H]at h
    rcases ih ts k t (fun p hp=>hne p (ry _ hp)) (by simpa using hl) h with⟨j,p,X,K,h3⟩|⟨X,K⟩
    ·exact .inl ⟨j+1,p,by simpa using X,K,by simpa using h3⟩
    ·refine .inr ⟨X,fun p hp hd=>?_⟩
     rcases kj.1 hp with rfl|hp
     ·simp [U5,hd]at H
     ·exact K p hp hd
def vj(hd:aR<a.tmps.size):(a.put (some aR) v).tmps.getD k undef=if aR=k then v else a.tmps.getD k undef:=by
 by_cases h:aR=k
 ·subst h;simp [Act.put,HA,hd]
 ·simp [Act.put,HA,h]
def DJ.step{E:En}{l:List Oper}(h:DJ E O G l ts done a w S)(hsl:wL E.N.n [] l=true)(hi:l[i]? =some o)(hwait: ∀e∈o.after,Region.binds .any e=true->done.getD e.on false=true)(D:ts[i]? =some t)(hun:done.getD i true=false)(hext:la uX w S w' S')(hsat:nm w' S')(hv:t.p S' v):DJ E O G l ts (done.setIfInBounds i true) (a.put o.dst v) w' S' :=by
 obtain⟨hs1,hs2⟩:=xX l [] hsl
 obtain⟨aR,hd,hdN,_⟩:=hs1 o (rC hi)
 have hda:aR<a.tmps.size:=by rw [h.size];exact hdN
 have hlt:i<done.size:=by rw [h.dsz];exact(tp.1 hi).1
 have hset: ∀j,(done.setIfInBounds i true).getD j false=true->j=i\/done.getD j false=true:=fun j hj=>by
  by_cases hij:i=j
  ·exact .inl hij.symm
  ·rw [xn false hij]at hj;exact .inr hj
 have hseti:(done.setIfInBounds i true).getD i false=true:=by simp [hlt]
 have hun' :done.getD i false=false:=by simp [hlt]at hun ⊢;exact hun
 refine⟨h.ext.step0 hext,hsat,h.own.ext0 hext,?_,?_,by simp [h.dsz],fun j p hj hdone e he H=>?_,fun k u hk hno=>?_,fun j p d' u hj hdone hd' hu=>?_⟩
 ·rw [hd];simp [Act.put,h.size]
 ·rw [hd];exact h.defers
 ·rcases hset j hdone with rfl|hj'
  ·rw [hi]at hj
   have:o=p:=by simpa using hj
   subst this
   exact zq (hwait e he H)
  ·exact zq (h.down j p hj hj' e he H)
 ·have hne:aR≠k:=fun e=>hno i o hi hseti (by rw [hd,e])
  rw [hd,vj hda,bk hne]
  exact u.mono hext.keep (h.old k u hk fun j p hj hdone=>hno j p hj (zq hdone))
 ·rw [hd,vj hda]
  rcases hset j hdone with rfl|hj'
  ·rw [hi]at hj
   have:o=p:=by simpa using hj
   subst this
   rw [hd]at hd'
   have:aR=d' :=by simpa using hd'
   subst this
   rw [bJ rfl]
   rw [D]at hu
   have:t=u:=by simpa using hu
   subst this
   exact hv
  ·have hne:aR≠d' :=fun e=>by
    subst e
    have:=hs2 i j o p hi hj (by rw [hd,hd'])
    subst this
    rw [hj']at hun';cases hun'
   rw [bk hne]
   exact u.mono hext.keep (h.new j p d' u hj hj' hd' hu)
def KL{l:List Oper}{done:Array Bool}(hsz:done.size=l.length)(hedge: ∀i o,l[i]? =some o->fv i o=true)(hr:Region.ready .any l.toArray done=[]): ∀n i,i<n->i<l.length->done.getD i false=true
 |0,i,h,_=>by omega
 |n+1,i,h,hi=>by
  have ih:=KL hsz hedge hr n
  by_cases hd:done.getD i true=true
  ·have:i<done.size:=by omega
   simp [this]at hd ⊢;exact hd
  ·exfalso
   have hmem:i∈Region.ready .any l.toArray done:=by
    rw [ul]
    refine⟨by simpa using hd,l[i],by simp [hi],fun e he H=>?_⟩
    have:=hedge i l[i] (by simp [hi])
    unfold fv at this
    have:=mo.1 this e (by simpa using he)
    simp only [H,ug,vE,vD]at this
    exact ih e.on (by omega) (by omega)
   rw [hr]at hmem
   cases hmem
def mW(done:Array Bool):Nat:=done.toList.countP (· ==false)
def sq(h:done.getD i true=false):mW (done.setIfInBounds i true)+1=mW done:=by
 have hlt:i<done.size:=by
  rcases qb i done.size with h' |h'
  ·exact h'
  ·simp [Array.getElem?_eq_none h']at h
 have hv:done[i]=false:=by simpa [hlt] using h
 unfold mW
 rw [Array.toList_setIfInBounds,List.countP_set (by simpa using hlt)]
 have K:(done.toList[i]'(by simpa using hlt))=false:=by simpa using hv
 have hpos:0<done.toList.countP (· ==false):=List.countP_pos_iff.2 ⟨done.toList[i]'(by simpa using hlt),Ge _,by rw [K];rfl⟩
 rw [K,bJ (show(false==false)=true from rfl),bk (show¬((true==false)=true) by decide)]
 omega
def La{E:En}{l:List Oper}(hsl:wL E.N.n [] l=true)(hd:DR E O G l ts 0 l)(hQ: ∀done a w S,DJ E O G l ts done a w S->(∀i,i<l.length->done.getD i false=true)->aK .normal a w):
  ∀(fuel:Nat) (done:Array Bool) (a:Act) (w:World) (S:SH),mW done=fuel->DJ E O G l ts done a w S->wpAnyIn (fw E.r) 0 E.P .any l.toArray aK fuel done a w:=by
 have hedge: ∀i o,l[i]? =some o->fv i o=true:=fun i o hi=>by
  obtain⟨_,_,_,_,_,h,_⟩:=DR.get l 0 hd i o hi
  simpa using h
 have fin: ∀done a w S,DJ E O G l ts done a w S->Region.ready .any l.toArray done=[]->aK .normal a w:=fun done a w S h hr=>
  hQ done a w S h fun i hi=>KL h.dsz hedge hr (i+1) i (by omega) hi
 intro fuel
 induction fuel with
 |zero=>
  intro done a w S hu h
  have hr:Region.ready .any l.toArray done=[]:=by
   cases hr:Region.ready .any l.toArray done with
   |nil=>rfl
   |cons i r=>
    have hm:i∈Region.ready .any l.toArray done:=by rw [hr];exact qa ..
    have:=sq (ul.1 hm).1
    omega
  exact⟨hr,fin done a w S h hr⟩
 |succ fuel ih=>
  intro done a w S hu h
  refine⟨fin done a w S h,fun i hi=>?_⟩
  obtain⟨hun,o,ho,hwait⟩:=ul.1 hi
  have ho' :l[i]? =some o:=by simpa using ho
  obtain⟨needs,t,X,K,h3,_,h5⟩:=DR.get l 0 hd i o ho'
  rw [uT]at X h3
  have hF:=h.need ho' hun hwait K h3
  have h6:=h5 a w S h.sat h.own hF
  have hu' :mW (done.setIfInBounds i true)=fuel:=by have:=sq hun;omega
  unfold wpOpIn
  rw [ho]
  show if _ then _ else _
  by_cases hw:Region.wanted o (yielded l.toArray a.tmps)=true
  ·rw [bJ hw]at h6 ⊢
   refine mH (fun a' w' ⟨v,S',ha,he,hs,hv⟩=>?_) h6
   subst ha
   exact ih _ _ _ S' hu' (h.step hsl ho' hwait X hun he hs hv)
  ·rw [bk hw]at h6 ⊢
   exact⟨fun _ _=>trivial,ih _ _ _ S hu' (h.step hsl ho' hwait X hun (jS _ _ _) h.sat h6)⟩
section
variable{E:En}
def gO{id:Nat}{l:List Oper}(hm:E.P.follows .mixedOrders=true)(hsl:wL E.N.n [] l=true)(hlen:ts.length=l.length)(hd:DR E O G l ts 0 l)(k:AT E aK .normal O (LD l ts G)):
  CG E aK (.region id l.toArray true) O G:=fun a w S st=>by
 refine wpIn_region_any hm ?_
 obtain⟨he,hs⟩:=yP (w:=w) st.sat
 refine La hsl hd (fun done a w S h hall=>k a w S ⟨h.ext,h.sat,h.own,h.size,h.defers,fun j t hj=>?_⟩) _ _ _ _ S ?_
  ⟨st.ext.step0 he,hs,st.own.ext0 he,st.facts.size,st.facts.defers,by simp,fun j o hj hdone=>?_,fun k t hk _=>st.facts.at_ k t hk,fun j o aR t hj hdone=>?_⟩
 ·obtain⟨hs1,_⟩:=xX l [] hsl
  rcases GY l ts j t (fun o ho e=>by obtain⟨aR,hd,_⟩:=hs1 o ho;rw [hd]at e;cases e) hlen hj with⟨i,o,X,K,h3⟩|⟨X,K⟩
  ·exact h.new i o j t X (hall i (tp.1 X).1) K h3
  ·exact h.old j t X fun i o ho _=>K o (rC ho)
 ·unfold mW;rw [MM,MK];simp
 ·simp [zX]at hdone
  split at hdone<;>simp at hdone
 ·simp [zX]at hdone
  split at hdone<;>simp at hdone
def ai{need:mV}(Y:o.guard=none)(h:cI E O need o t):cw E O ops need o t:=fun a w S hs ho hf=>by
 have:Region.wanted o (yielded ops a.tmps)=true:=by unfold Region.wanted;rw [Y]
 rw [this,bJ rfl]
 exact h a w S hs ho hf
def Da{l:List Oper}{need:mV}{c:Bool}(Y:o.guard=some (j,pol))(hj:((l.toArray)[j]?).bind (·.dst)=some gs)(hgs:Nat.blt gs E.N.n=true)(H:aY E.N need (.tmp gs) (vo c b))(h:(c&&(b==pol))=true->cI E O need o t):cw E O l.toArray need o (qg (c&&(b==pol)) t):=fun a w S hs ho hf=>by
 have hw:=um (ops:=l.toArray) Y hj (by rw [hf.size];simpa [vD] using hgs) (H S a hf)
 rw [hw]
 by_cases hc:(c&&(b==pol))=true
 ·rw [bJ hc]
  refine oO (fun a' w' ⟨v,S',ha,he,hs,hv⟩=>⟨v,S',ha,he,hs,?_⟩) (h hc a w S hs ho hf)
  show if _ then _ else _
  rw [bJ hc];exact hv
 ·rw [bk hc]
  show if _ then _ else _
  rw [bk hc]
end
variable{α0 α1 α2 α3 α4:Type}{Gf:α0->α1->α2->α3->α4->mV}{Of:α0->α1->α2->α3->α4->List OE}{α5 α6 α7 α8:Type}
section
variable{E:En}
def PQ{id:Nat}{aa:Prop}{Of:List OE}{Gf:mV}(hK:aa->AT E aK .normal (Of) (Gf))(h:(aa->AT E aK .normal (Of) (Gf))->CG E (Exit.inBlock id aK) c O G):CG E aK (.block id c) O G:=ak (h hK)
def PL{x y:Code}{aa:Prop}{Of:List OE}{Gf:mV}(hK:aa->CG E aK y (Of) (Gf))
  (h:(aa->AT E (Exit.then (y.wpIn (fw E.r) 0 E.P aK) aK) .normal (Of) (Gf))->CG E (Exit.then (y.wpIn (fw E.r) 0 E.P aK) aK) x O G):CG E aK (.seq x y) O G:=aP (h (fun hz=>hK hz))
def zl{aa:Nat->α0->Prop}{Of:α0->List OE}{Gf:α0->mV}(h0: ∀x0,aa 0 x0->False)(h: ∀n,(∀x0,aa n x0->LG E aK c (Of x0) (Gf x0))-> ∀x0,aa (n+1) x0->LG E aK c (Of x0) (Gf x0)): ∀n,∀x0,aa n x0->LG E aK c (Of x0) (Gf x0)
 |0=>fun x0 hz=>(h0 x0 hz).elim
 |n+1=>h n (zl h0 h n)
def eU{aa:List β->α0->Prop}{Of:List β->α0->List OE}{Gf:List β->α0->mV}(h0: ∀x0,aa [] x0->LG E aK c (Of [] x0) (Gf [] x0))(h: ∀b l,(∀x0,aa l x0->LG E aK c (Of l x0) (Gf l x0))-> ∀x0,aa (b::l) x0->LG E aK c (Of (b::l) x0) (Gf (b::l) x0)): ∀l,∀x0,aa l x0->LG E aK c (Of l x0) (Gf l x0)
 |[]=>h0
 |b::l=>h b l (eU h0 h l)
def Hv{id:Nat}{aa:α0->Prop}{Of:α0->List OE}{Gf:α0->mV}(hK: ∀x0,aa x0->AT E aK .normal (Of x0) (Gf x0))(h:(∀x0,aa x0->AT E aK .normal (Of x0) (Gf x0))->CG E (Exit.inBlock id aK) c O G):CG E aK (.block id c) O G:=ak (h hK)
def d5{x y:Code}{aa:α0->Prop}{Of:α0->List OE}{Gf:α0->mV}(hK: ∀x0,aa x0->CG E aK y (Of x0) (Gf x0))(h:(∀x0,aa x0->AT E (Exit.then (y.wpIn (fw E.r) 0 E.P aK) aK) .normal (Of x0) (Gf x0))->CG E (Exit.then (y.wpIn (fw E.r) 0 E.P aK) aK) x O G):CG E aK (.seq x y) O G:=aP (h (fun x0=>fun hz=>hK x0 hz))
def zk{aa:Nat->α0->α1->Prop}{Of:α0->α1->List OE}{Gf:α0->α1->mV}(h0: ∀x0 x1,aa 0 x0 x1->False)(h: ∀n,(∀x0 x1,aa n x0 x1->LG E aK c (Of x0 x1) (Gf x0 x1))-> ∀x0 x1,aa (n+1) x0 x1->LG E aK c (Of x0 x1) (Gf x0 x1)): ∀n,∀x0 x1,aa n x0 x1->LG E aK c (Of x0 x1) (Gf x0 x1)
 |0=>fun x0 x1 hz=>(h0 x0 x1 hz).elim
 |n+1=>h n (zk h0 h n)
def uS{aa:List β->α0->α1->Prop}{Of:List β->α0->α1->List OE}{Gf:List β->α0->α1->mV}(h0: ∀x0 x1,aa [] x0 x1->LG E aK c (Of [] x0 x1) (Gf [] x0 x1))(h: ∀b l,(∀x0 x1,aa l x0 x1->LG E aK c (Of l x0 x1) (Gf l x0 x1))-> ∀x0 x1,aa (b::l) x0 x1->LG E aK c (Of (b::l) x0 x1) (Gf (b::l) x0 x1)): ∀l,∀x0 x1,aa l x0 x1->LG E aK c (Of l x0 x1) (Gf l x0 x1)
 |[]=>h0
 |b::l=>h b l (uS h0 h l)
def CI{x y:Code}{aa:α0->α1->Prop}{Of:α0->α1->List OE}{Gf:α0->α1->mV}(hK: ∀x0 x1,aa x0 x1->CG E aK y (Of x0 x1) (Gf x0 x1))(h:(∀x0 x1,aa x0 x1->AT E (Exit.then (y.wpIn (fw E.r) 0 E.P aK) aK) .normal (Of x0 x1) (Gf x0 x1))->CG E (Exit.then (y.wpIn (fw E.r) 0 E.P aK) aK) x O G):CG E aK (.seq x y) O G:=aP (h (fun x0 x1=>fun hz=>hK x0 x1 hz))
def Oc{aa:Nat->α0->α1->α2->Prop}{Of:α0->α1->α2->List OE}{Gf:α0->α1->α2->mV}(h0: ∀x0 x1 x2,aa 0 x0 x1 x2->False)(h: ∀n,(∀x0 x1 x2,aa n x0 x1 x2->LG E aK c (Of x0 x1 x2) (Gf x0 x1 x2))-> ∀x0 x1 x2,aa (n+1) x0 x1 x2->LG E aK c (Of x0 x1 x2) (Gf x0 x1 x2)): ∀n,∀x0 x1 x2,aa n x0 x1 x2->LG E aK c (Of x0 x1 x2) (Gf x0 x1 x2)
 |0=>fun x0 x1 x2 hz=>(h0 x0 x1 x2 hz).elim
 |n+1=>h n (Oc h0 h n)
def Fz{aa:List β->α0->α1->α2->Prop}{Of:List β->α0->α1->α2->List OE}{Gf:List β->α0->α1->α2->mV}(h0: ∀x0 x1 x2,aa [] x0 x1 x2->LG E aK c (Of [] x0 x1 x2) (Gf [] x0 x1 x2))(h: ∀b l,(∀x0 x1 x2,aa l x0 x1 x2->LG E aK c (Of l x0 x1 x2) (Gf l x0 x1 x2))-> ∀x0 x1 x2,aa (b::l) x0 x1 x2->LG E aK c (Of (b::l) x0 x1 x2) (Gf (b::l) x0 x1 x2)): ∀l,∀x0 x1 x2,aa l x0 x1 x2->LG E aK c (Of l x0 x1 x2) (Gf l x0 x1 x2)
 |[]=>h0
 |b::l=>h b l (Fz h0 h l)
def Oa{aa:Nat->α0->α1->α2->Prop}{Of:Nat->α0->α1->α2->List OE}{Gf:Nat->α0->α1->α2->mV}(h0: ∀x0 x1 x2,aa 0 x0 x1 x2->LG E aK c (Of 0 x0 x1 x2) (Gf 0 x0 x1 x2))(h: ∀n,(∀x0 x1 x2,aa n x0 x1 x2->LG E aK c (Of n x0 x1 x2) (Gf n x0 x1 x2))-> ∀x0 x1 x2,aa (n+1) x0 x1 x2->LG E aK c (Of (n+1) x0 x1 x2) (Gf (n+1) x0 x1 x2)): ∀n,∀x0 x1 x2,aa n x0 x1 x2->LG E aK c (Of n x0 x1 x2) (Gf n x0 x1 x2)
 |0=>h0
 |n+1=>h n (Oa h0 h n)
def zn{x y:Code}{aa:α0->α1->α2->Prop}{Of:α0->α1->α2->List OE}{Gf:α0->α1->α2->mV}(hK: ∀x0 x1 x2,aa x0 x1 x2->CG E aK y (Of x0 x1 x2) (Gf x0 x1 x2))(h:(∀x0 x1 x2,aa x0 x1 x2->AT E (Exit.then (y.wpIn (fw E.r) 0 E.P aK) aK) .normal (Of x0 x1 x2) (Gf x0 x1 x2))->CG E (Exit.then (y.wpIn (fw E.r) 0 E.P aK) aK) x O G):CG E aK (.seq x y) O G:=aP (h (fun x0 x1 x2=>fun hz=>hK x0 x1 x2 hz))
def qW{aa:Nat->α0->α1->α2->α3->Prop}{Of:α0->α1->α2->α3->List OE}{Gf:α0->α1->α2->α3->mV}(h0: ∀x0 x1 x2 x3,aa 0 x0 x1 x2 x3->False)(h: ∀n,(∀x0 x1 x2 x3,aa n x0 x1 x2 x3->LG E aK c (Of x0 x1 x2 x3) (Gf x0 x1 x2 x3))-> ∀x0 x1 x2 x3,aa (n+1) x0 x1 x2 x3->LG E aK c (Of x0 x1 x2 x3) (Gf x0 x1 x2 x3)): ∀n,∀x0 x1 x2 x3,aa n x0 x1 x2 x3->LG E aK c (Of x0 x1 x2 x3) (Gf x0 x1 x2 x3)
 |0=>fun x0 x1 x2 x3 hz=>(h0 x0 x1 x2 x3 hz).elim
 |n+1=>h n (qW h0 h n)
def jz{aa:List β->α0->α1->α2->α3->Prop}{Of:List β->α0->α1->α2->α3->List OE}{Gf:List β->α0->α1->α2->α3->mV}(h0: ∀x0 x1 x2 x3,aa [] x0 x1 x2 x3->LG E aK c (Of [] x0 x1 x2 x3) (Gf [] x0 x1 x2 x3))(h: ∀b l,(∀x0 x1 x2 x3,aa l x0 x1 x2 x3->LG E aK c (Of l x0 x1 x2 x3) (Gf l x0 x1 x2 x3))-> ∀x0 x1 x2 x3,aa (b::l) x0 x1 x2 x3->LG E aK c (Of (b::l) x0 x1 x2 x3) (Gf (b::l) x0 x1 x2 x3)): ∀l,∀x0 x1 x2 x3,aa l x0 x1 x2 x3->LG E aK c (Of l x0 x1 x2 x3) (Gf l x0 x1 x2 x3)
 |[]=>h0
 |b::l=>h b l (jz h0 h l)
def Hu{id:Nat}{aa:α0->α1->α2->α3->Prop}{Of:α0->α1->α2->α3->List OE}{Gf:α0->α1->α2->α3->mV}(hK: ∀x0 x1 x2 x3,aa x0 x1 x2 x3->AT E aK .normal (Of x0 x1 x2 x3) (Gf x0 x1 x2 x3))(h:(∀x0 x1 x2 x3,aa x0 x1 x2 x3->AT E aK .normal (Of x0 x1 x2 x3) (Gf x0 x1 x2 x3))->CG E (Exit.inBlock id aK) c O G):CG E aK (.block id c) O G:=ak (h hK)
def zj{aa:Nat->α0->α1->α2->α3->α4->Prop}(h0: ∀x0 x1 x2 x3 x4,aa 0 x0 x1 x2 x3 x4->False)(h: ∀n,(∀x0 x1 x2 x3 x4,aa n x0 x1 x2 x3 x4->LG E aK c (Of x0 x1 x2 x3 x4) (Gf x0 x1 x2 x3 x4))-> ∀x0 x1 x2 x3 x4,aa (n+1) x0 x1 x2 x3 x4->LG E aK c (Of x0 x1 x2 x3 x4) (Gf x0 x1 x2 x3 x4)): ∀n,∀x0 x1 x2 x3 x4,aa n x0 x1 x2 x3 x4->LG E aK c (Of x0 x1 x2 x3 x4) (Gf x0 x1 x2 x3 x4)
 |0=>fun x0 x1 x2 x3 x4 hz=>(h0 x0 x1 x2 x3 x4 hz).elim
 |n+1=>h n (zj h0 h n)
def yN{aa:List β->α0->α1->α2->α3->α4->Prop}{Of:List β->α0->α1->α2->α3->α4->List OE}{Gf:List β->α0->α1->α2->α3->α4->mV}(h0: ∀x0 x1 x2 x3 x4,aa [] x0 x1 x2 x3 x4->LG E aK c (Of [] x0 x1 x2 x3 x4) (Gf [] x0 x1 x2 x3 x4))(h: ∀b l,(∀x0 x1 x2 x3 x4,aa l x0 x1 x2 x3 x4->LG E aK c (Of l x0 x1 x2 x3 x4) (Gf l x0 x1 x2 x3 x4))-> ∀x0 x1 x2 x3 x4,aa (b::l) x0 x1 x2 x3 x4->LG E aK c (Of (b::l) x0 x1 x2 x3 x4) (Gf (b::l) x0 x1 x2 x3 x4)): ∀l,∀x0 x1 x2 x3 x4,aa l x0 x1 x2 x3 x4->LG E aK c (Of l x0 x1 x2 x3 x4) (Gf l x0 x1 x2 x3 x4)
 |[]=>h0
 |b::l=>h b l (yN h0 h l)
def N9{aa:Nat->α0->α1->α2->α3->α4->Prop}{Of:Nat->α0->α1->α2->α3->α4->List OE}{Gf:Nat->α0->α1->α2->α3->α4->mV}(h0: ∀x0 x1 x2 x3 x4,aa 0 x0 x1 x2 x3 x4->LG E aK c (Of 0 x0 x1 x2 x3 x4) (Gf 0 x0 x1 x2 x3 x4))(h: ∀n,(∀x0 x1 x2 x3 x4,aa n x0 x1 x2 x3 x4->LG E aK c (Of n x0 x1 x2 x3 x4) (Gf n x0 x1 x2 x3 x4))-> ∀x0 x1 x2 x3 x4,aa (n+1) x0 x1 x2 x3 x4->LG E aK c (Of (n+1) x0 x1 x2 x3 x4) (Gf (n+1) x0 x1 x2 x3 x4)): ∀n,∀x0 x1 x2 x3 x4,aa n x0 x1 x2 x3 x4->LG E aK c (Of n x0 x1 x2 x3 x4) (Gf n x0 x1 x2 x3 x4)
 |0=>h0
 |n+1=>h n (N9 h0 h n)
def wB{id:Nat}{aa:α0->α1->α2->α3->α4->Prop}(hK: ∀x0 x1 x2 x3 x4,aa x0 x1 x2 x3 x4->AT E aK .normal (Of x0 x1 x2 x3 x4) (Gf x0 x1 x2 x3 x4))(h:(∀x0 x1 x2 x3 x4,aa x0 x1 x2 x3 x4->AT E aK .normal (Of x0 x1 x2 x3 x4) (Gf x0 x1 x2 x3 x4))->CG E (Exit.inBlock id aK) c O G):CG E aK (.block id c) O G:=ak (h hK)
def Hs{x y:Code}{aa:α0->α1->α2->α3->α4->Prop}(hK: ∀x0 x1 x2 x3 x4,aa x0 x1 x2 x3 x4->CG E aK y (Of x0 x1 x2 x3 x4) (Gf x0 x1 x2 x3 x4))(h:(∀x0 x1 x2 x3 x4,aa x0 x1 x2 x3 x4->AT E (Exit.then (y.wpIn (fw E.r) 0 E.P aK) aK) .normal (Of x0 x1 x2 x3 x4) (Gf x0 x1 x2 x3 x4))->CG E (Exit.then (y.wpIn (fw E.r) 0 E.P aK) aK) x O G):CG E aK (.seq x y) O G:=aP (h (fun x0 x1 x2 x3 x4=>fun hz=>hK x0 x1 x2 x3 x4 hz))
def B0{aa:Nat->α0->α1->α2->α3->α4->α5->Prop}{Of:α0->α1->α2->α3->α4->α5->List OE}{Gf:α0->α1->α2->α3->α4->α5->mV}(h0: ∀x0 x1 x2 x3 x4 x5,aa 0 x0 x1 x2 x3 x4 x5->False)(h: ∀n,(∀x0 x1 x2 x3 x4 x5,aa n x0 x1 x2 x3 x4 x5->LG E aK c (Of x0 x1 x2 x3 x4 x5) (Gf x0 x1 x2 x3 x4 x5))-> ∀x0 x1 x2 x3 x4 x5,aa (n+1) x0 x1 x2 x3 x4 x5->LG E aK c (Of x0 x1 x2 x3 x4 x5) (Gf x0 x1 x2 x3 x4 x5)): ∀n,∀x0 x1 x2 x3 x4 x5,aa n x0 x1 x2 x3 x4 x5->LG E aK c (Of x0 x1 x2 x3 x4 x5) (Gf x0 x1 x2 x3 x4 x5)
 |0=>fun x0 x1 x2 x3 x4 x5 hz=>(h0 x0 x1 x2 x3 x4 x5 hz).elim
 |n+1=>h n (B0 h0 h n)
def KR{aa:List β->α0->α1->α2->α3->α4->α5->Prop}{Of:List β->α0->α1->α2->α3->α4->α5->List OE}{Gf:List β->α0->α1->α2->α3->α4->α5->mV}(h0: ∀x0 x1 x2 x3 x4 x5,aa [] x0 x1 x2 x3 x4 x5->LG E aK c (Of [] x0 x1 x2 x3 x4 x5) (Gf [] x0 x1 x2 x3 x4 x5))(h: ∀b l,(∀x0 x1 x2 x3 x4 x5,aa l x0 x1 x2 x3 x4 x5->LG E aK c (Of l x0 x1 x2 x3 x4 x5) (Gf l x0 x1 x2 x3 x4 x5))-> ∀x0 x1 x2 x3 x4 x5,aa (b::l) x0 x1 x2 x3 x4 x5->LG E aK c (Of (b::l) x0 x1 x2 x3 x4 x5) (Gf (b::l) x0 x1 x2 x3 x4 x5)): ∀l,∀x0 x1 x2 x3 x4 x5,aa l x0 x1 x2 x3 x4 x5->LG E aK c (Of l x0 x1 x2 x3 x4 x5) (Gf l x0 x1 x2 x3 x4 x5)
 |[]=>h0
 |b::l=>h b l (KR h0 h l)
def PP{id:Nat}{aa:α0->α1->α2->α3->α4->α5->Prop}{Of:α0->α1->α2->α3->α4->α5->List OE}{Gf:α0->α1->α2->α3->α4->α5->mV}(hK: ∀x0 x1 x2 x3 x4 x5,aa x0 x1 x2 x3 x4 x5->AT E aK .normal (Of x0 x1 x2 x3 x4 x5) (Gf x0 x1 x2 x3 x4 x5))(h:(∀x0 x1 x2 x3 x4 x5,aa x0 x1 x2 x3 x4 x5->AT E aK .normal (Of x0 x1 x2 x3 x4 x5) (Gf x0 x1 x2 x3 x4 x5))->CG E (Exit.inBlock id aK) c O G):CG E aK (.block id c) O G:=ak (h hK)
def Fy{aa:List β->α0->α1->α2->α3->α4->α5->α6->Prop}{Of:List β->α0->α1->α2->α3->α4->α5->α6->List OE}{Gf:List β->α0->α1->α2->α3->α4->α5->α6->mV}(h0: ∀x0 x1 x2 x3 x4 x5 x6,aa [] x0 x1 x2 x3 x4 x5 x6->LG E aK c (Of [] x0 x1 x2 x3 x4 x5 x6) (Gf [] x0 x1 x2 x3 x4 x5 x6))(h: ∀b l,(∀x0 x1 x2 x3 x4 x5 x6,aa l x0 x1 x2 x3 x4 x5 x6->LG E aK c (Of l x0 x1 x2 x3 x4 x5 x6) (Gf l x0 x1 x2 x3 x4 x5 x6))-> ∀x0 x1 x2 x3 x4 x5 x6,aa (b::l) x0 x1 x2 x3 x4 x5 x6->LG E aK c (Of (b::l) x0 x1 x2 x3 x4 x5 x6) (Gf (b::l) x0 x1 x2 x3 x4 x5 x6)): ∀l,∀x0 x1 x2 x3 x4 x5 x6,aa l x0 x1 x2 x3 x4 x5 x6->LG E aK c (Of l x0 x1 x2 x3 x4 x5 x6) (Gf l x0 x1 x2 x3 x4 x5 x6)
 |[]=>h0
 |b::l=>h b l (Fy h0 h l)
def wy{aa:List β->α0->α1->α2->α3->α4->α5->α6->α7->Prop}{Of:List β->α0->α1->α2->α3->α4->α5->α6->α7->List OE}{Gf:List β->α0->α1->α2->α3->α4->α5->α6->α7->mV}(h0: ∀x0 x1 x2 x3 x4 x5 x6 x7,aa [] x0 x1 x2 x3 x4 x5 x6 x7->LG E aK c (Of [] x0 x1 x2 x3 x4 x5 x6 x7) (Gf [] x0 x1 x2 x3 x4 x5 x6 x7))(h: ∀b l,(∀x0 x1 x2 x3 x4 x5 x6 x7,aa l x0 x1 x2 x3 x4 x5 x6 x7->LG E aK c (Of l x0 x1 x2 x3 x4 x5 x6 x7) (Gf l x0 x1 x2 x3 x4 x5 x6 x7))-> ∀x0 x1 x2 x3 x4 x5 x6 x7,aa (b::l) x0 x1 x2 x3 x4 x5 x6 x7->LG E aK c (Of (b::l) x0 x1 x2 x3 x4 x5 x6 x7) (Gf (b::l) x0 x1 x2 x3 x4 x5 x6 x7)): ∀l,∀x0 x1 x2 x3 x4 x5 x6 x7,aa l x0 x1 x2 x3 x4 x5 x6 x7->LG E aK c (Of l x0 x1 x2 x3 x4 x5 x6 x7) (Gf l x0 x1 x2 x3 x4 x5 x6 x7)
 |[]=>h0
 |b::l=>h b l (wy h0 h l)
def BZ{aa:List β->α0->α1->α2->α3->α4->α5->α6->α7->α8->Prop}{Of:List β->α0->α1->α2->α3->α4->α5->α6->α7->α8->List OE}{Gf:List β->α0->α1->α2->α3->α4->α5->α6->α7->α8->mV}(h0: ∀x0 x1 x2 x3 x4 x5 x6 x7 x8,aa [] x0 x1 x2 x3 x4 x5 x6 x7 x8->LG E aK c (Of [] x0 x1 x2 x3 x4 x5 x6 x7 x8) (Gf [] x0 x1 x2 x3 x4 x5 x6 x7 x8))(h: ∀b l,(∀x0 x1 x2 x3 x4 x5 x6 x7 x8,aa l x0 x1 x2 x3 x4 x5 x6 x7 x8->LG E aK c (Of l x0 x1 x2 x3 x4 x5 x6 x7 x8) (Gf l x0 x1 x2 x3 x4 x5 x6 x7 x8))-> ∀x0 x1 x2 x3 x4 x5 x6 x7 x8,aa (b::l) x0 x1 x2 x3 x4 x5 x6 x7 x8->LG E aK c (Of (b::l) x0 x1 x2 x3 x4 x5 x6 x7 x8) (Gf (b::l) x0 x1 x2 x3 x4 x5 x6 x7 x8)): ∀l,∀x0 x1 x2 x3 x4 x5 x6 x7 x8,aa l x0 x1 x2 x3 x4 x5 x6 x7 x8->LG E aK c (Of l x0 x1 x2 x3 x4 x5 x6 x7 x8) (Gf l x0 x1 x2 x3 x4 x5 x6 x7 x8)
 |[]=>h0
 |b::l=>h b l (BZ h0 h l)
def Ht{id:Nat}{aa:α0->α1->α2->α3->α4->α5->α6->α7->α8->Prop}{Of:α0->α1->α2->α3->α4->α5->α6->α7->α8->List OE}{Gf:α0->α1->α2->α3->α4->α5->α6->α7->α8->mV}(hK: ∀x0 x1 x2 x3 x4 x5 x6 x7 x8,aa x0 x1 x2 x3 x4 x5 x6 x7 x8->AT E aK .normal (Of x0 x1 x2 x3 x4 x5 x6 x7 x8) (Gf x0 x1 x2 x3 x4 x5 x6 x7 x8))(h:(∀x0 x1 x2 x3 x4 x5 x6 x7 x8,aa x0 x1 x2 x3 x4 x5 x6 x7 x8->AT E aK .normal (Of x0 x1 x2 x3 x4 x5 x6 x7 x8) (Gf x0 x1 x2 x3 x4 x5 x6 x7 x8))->CG E (Exit.inBlock id aK) c O G):CG E aK (.block id c) O G:=ak (h hK)
def FA{α9:Type}{aa:Nat->α0->α1->α2->α3->α4->α5->α6->α7->α8->α9->Prop}{Of:α0->α1->α2->α3->α4->α5->α6->α7->α8->α9->List OE}{Gf:α0->α1->α2->α3->α4->α5->α6->α7->α8->α9->mV}(h0: ∀x0 x1 x2 x3 x4 x5 x6 x7 x8 x9,aa 0 x0 x1 x2 x3 x4 x5 x6 x7 x8 x9->False)(h: ∀n,(∀x0 x1 x2 x3 x4 x5 x6 x7 x8 x9,aa n x0 x1 x2 x3 x4 x5 x6 x7 x8 x9->LG E aK c (Of x0 x1 x2 x3 x4 x5 x6 x7 x8 x9) (Gf x0 x1 x2 x3 x4 x5 x6 x7 x8 x9))-> ∀x0 x1 x2 x3 x4 x5 x6 x7 x8 x9,aa (n+1) x0 x1 x2 x3 x4 x5 x6 x7 x8 x9->LG E aK c (Of x0 x1 x2 x3 x4 x5 x6 x7 x8 x9) (Gf x0 x1 x2 x3 x4 x5 x6 x7 x8 x9)): ∀n,∀x0 x1 x2 x3 x4 x5 x6 x7 x8 x9,aa n x0 x1 x2 x3 x4 x5 x6 x7 x8 x9->LG E aK c (Of x0 x1 x2 x3 x4 x5 x6 x7 x8 x9) (Gf x0 x1 x2 x3 x4 x5 x6 x7 x8 x9)
 |0=>fun x0 x1 x2 x3 x4 x5 x6 x7 x8 x9 hz=>(h0 x0 x1 x2 x3 x4 x5 x6 x7 x8 x9 hz).elim
 |n+1=>h n (FA h0 h n)
end
def bs{α:Type _}{β:Type _}{x:Option α}{k:α->Option β}{r:β}(h:x.bind k=some r): ∃y,x=some y/\k y=some r:=by
 cases x with
 |none=>cases h
 |some y=>exact⟨y,rfl,h⟩
def ct{β:Type _}{x y:Option β}{r:β}(h:(if b=true then x else y)=some r)(H:b=true):x=some r:=by rwa [bJ H]at h
def cf{β:Type _}{x y:Option β}{r:β}(h:(if b=true then x else y)=some r)(H:b=false):y=some r:=by rwa [bk (by rw [H];decide)]at h
def so{β:Type _}{x r:β}(h:some x=some r):x=r:=by simpa using h
def og [Inhabited α]{x:Option α}{k:α->Option β}{aR:Option β}{r:β}(h:(if b=true then x.bind k else aR)=some r): ∃y,(b=true->x=some y/\k y=some r)/\(b=false->aR=some r):=by
 cases b with
 |true=>obtain⟨y,X,K⟩:=bs (ct h rfl);exact⟨y,fun _=>⟨X,K⟩,fun e=>(by cases e)⟩
 |false=>exact⟨default,fun e=>(by cases e),fun _=>cf h rfl⟩

def cH{α β:Type}(p:Rp α)(q:Rp β):Rp (α×β) where
 sz:=p.sz+q.sz
 agg:=true
 rc:=fun S cs x=> ∃a b,cs=a++b/\p.rc S a x.1/\q.rc S b x.2
 mono:=fun h ⟨a,b,e,X,K⟩=>⟨a,b,e,p.mono h X,q.mono h K⟩
 len:=fun⟨a,b,e,X,K⟩=>by rw [e,mq,p.len X,q.len K]
 one:=fun⟨a,b,e,X,K⟩ c hc=>by
  rw [e]at hc
  rcases uW.1 hc with h|h
  ·exact p.one X c h
  ·exact q.one K c h
 sc:=fun h=>by cases h
def nN{α β:Type}(p:Rp α)(f:β->α):Rp β where
 sz:=p.sz
 agg:=true
 rc:=fun S cs x=>p.rc S cs (f x)
 mono:=fun h k=>p.mono h k
 len:=fun h=>p.len h
 one:=fun h=>p.one h
 sc:=fun h=>by cases h
def cq{p:Rp α}{f:β->α}:md (nN p f) 0 p f:=fun S cs x h=>by
 have h' :p.rc S cs (f x):=h
 have hl:=p.len h'
 rw [zr,<-hl,DF];exact h'
def dj{γ:Type}{p:Rp α}{r:Rp γ}{get:γ->α×β}(h:md r off (cH p q) get):md r off p (fun x=>(get x).1):=fun S cs x k=>by
 obtain⟨a,b,e,X,K⟩:=h S cs x k
 have hl:=p.len X
 have hl2:=q.len K
 have:(cs.drop off).take p.sz=a:=by
  have e2:=congrArg (List.take p.sz) e
  rw [AI,xK (by show p.sz<=p.sz+q.sz;omega),<-hl,List.take_left]at e2
  rw [<-hl];exact e2
 rw [this];exact X
def aF{γ:Type}{p:Rp α}{r:Rp γ}{off' :Nat}{get:γ->α×β}(h:md r off (cH p q) get)(ho:off' =off+p.sz):md r off' q (fun x=>(get x).2):=fun S cs x k=>by
 obtain⟨a,b,e,X,K⟩:=h S cs x k
 have hl:=p.len X
 have hl2:=q.len K
 have:(cs.drop off').take q.sz=b:=by
  have e2:=congrArg (List.drop p.sz) e
  rw [zC,uV,<-hl,List.drop_left]at e2
  rw [ho,<-hl,<-e2]
  congr 1
  show q.sz=p.sz+q.sz-a.length
  omega
 rw [this];exact K

section
variable{E:En}
def Vl{op:Op}{ty:TypeId}(hj:(ops[j]?).bind (·.dst)=some gs)(hgs:Nat.blt gs E.N.n=true)(Y:cC G gs=some (tD rB b))(hd:Nat.blt aR E.N.n=true)(h:b=true->cI E O G ⟨some aR,op,ty,pos,after,some (j,true)⟩ t)(k:RG E ops aK rest O ((aR,qg b t)::G)):RG E ops aK (⟨some aR,op,ty,pos,after,some (j,true)⟩::rest) O G:=by
 have e:(true&&(b==true))=b:=by cases b<;>rfl
 exact IS hj hgs (ro Y) hd (by rw [e];exact h) (by rw [e];exact k)
def Vm{op:Op}{ty:TypeId}(hj:(ops[j]?).bind (·.dst)=some gs)(hgs:Nat.blt gs E.N.n=true)(Y:cC G gs=some (tD rB b))(hd:Nat.blt aR E.N.n=true)(h:(!b)=true->cI E O G ⟨some aR,op,ty,pos,after,some (j,false)⟩ t)(k:RG E ops aK rest O ((aR,qg (!b) t)::G)):RG E ops aK (⟨some aR,op,ty,pos,after,some (j,false)⟩::rest) O G:=by
 have e:(true&&(b==false))= !b:=by cases b<;>rfl
 exact IS hj hgs (ro Y) hd (by rw [e];exact h) (by rw [e];exact k)
def de{c:Bool}{op:Op}{ty:TypeId}(hj:(ops[j]?).bind (·.dst)=some gs)(hgs:Nat.blt gs E.N.n=true)(Y:cC G gs=some (qg c (tD rB b)))(hd:Nat.blt aR E.N.n=true)(h:(c&&b)=true->cI E O G ⟨some aR,op,ty,pos,after,some (j,true)⟩ t)(k:RG E ops aK rest O ((aR,qg (c&&b) t)::G)):RG E ops aK (⟨some aR,op,ty,pos,after,some (j,true)⟩::rest) O G:=by
 have e:(c&&(b==true))=(c&&b):=by cases b<;>rfl
 exact IS hj hgs (Cn Y) hd (by rw [e];exact h) (by rw [e];exact k)
def cF{c:Bool}{op:Op}{ty:TypeId}(hj:(ops[j]?).bind (·.dst)=some gs)(hgs:Nat.blt gs E.N.n=true)(Y:cC G gs=some (qg c (tD rB b)))(hd:Nat.blt aR E.N.n=true)(h:(c&& !b)=true->cI E O G ⟨some aR,op,ty,pos,after,some (j,false)⟩ t)(k:RG E ops aK rest O ((aR,qg (c&& !b) t)::G)):RG E ops aK (⟨some aR,op,ty,pos,after,some (j,false)⟩::rest) O G:=by
 have e:(c&&(b==false))=(c&& !b):=by cases b<;>rfl
 exact IS hj hgs (Cn Y) hd (by rw [e];exact h) (by rw [e];exact k)
def dX{l:List Oper}{need:mV}(Y:o.guard=some (j,true))(hj:((l.toArray)[j]?).bind (·.dst)=some gs)(hgs:Nat.blt gs E.N.n=true)(H:cC need gs=some (tD rB b))(h:b=true->cI E O need o t):cw E O l.toArray need o (qg b t):=by
 have e:(true&&(b==true))=b:=by cases b<;>rfl
 have:=Da (t:=t) Y hj hgs (ro (E:=E) H) (by rw [e];exact h)
 rwa [e]at this
def iS{l:List Oper}{need:mV}(Y:o.guard=some (j,false))(hj:((l.toArray)[j]?).bind (·.dst)=some gs)(hgs:Nat.blt gs E.N.n=true)(H:cC need gs=some (tD rB b))(h:(!b)=true->cI E O need o t):cw E O l.toArray need o (qg (!b) t):=by
 have e:(true&&(b==false))= !b:=by cases b<;>rfl
 have:=Da (t:=t) Y hj hgs (ro (E:=E) H) (by rw [e];exact h)
 rwa [e]at this
def sd{a:Bool}(h:a=true)(k:b=true):(a&&b)=true:=by rw [h,k];rfl
def sb{a:Bool}(h:a=false):(!a)=true:=by rw [h];rfl
def yR{c:Operand}{x y:Code}(H:aY E.N G c (tD rB b))(h:b=true)(V:CG E aK x O G):CG E aK (.cond c x y) O G:=tZ H (fun _=>V) (fun e=>by rw [h]at e;cases e)
def yS{c:Operand}{x y:Code}(H:aY E.N G c (tD rB b))(h:b=false)(hy:CG E aK y O G):CG E aK (.cond c x y) O G:=tZ H (fun e=>by rw [h]at e;cases e) (fun _=>hy)
end
def og2 [Inhabited α]{x:Option α}{k:α->Option β}{r:β}(h:b=true->x.bind k=some r): ∃y,b=true->x=some y/\k y=some r:=by
 cases b with
 |true=>obtain⟨y,X,K⟩:=bs (h rfl);exact⟨y,fun _=>⟨X,K⟩⟩
 |false=>exact⟨default,fun e=>(by cases e)⟩
section
variable{E:En}{ty:TypeId}
def jm{c:Operand}{q:Bool}(hc:aY E.N G c (tD rB b))(V:b=true->aY E.N G x (tD rB q)):cI E O G ⟨dst,.pick c x (.const (.bool false)),ty,pos,after,g⟩ (tD rB (b&&q)):=by
 refine y5 hc (fun h=>?_) (fun h=>?_)
 ·subst h;exact V rfl
 ·subst h;exact hB
def kL{c:Operand}{q:Bool}(hc:aY E.N G c (tD rB b))(V:b=false->aY E.N G x (tD rB q)):cI E O G ⟨dst,.pick c (.const (.bool true)) x,ty,pos,after,g⟩ (tD rB (b||q)):=by
 refine y5 hc (fun h=>?_) (fun h=>?_)
 ·subst h;exact hB
 ·subst h;exact V rfl
def co{c:Operand}{q t:Bool}(hc:aY E.N G c (tD rB b))(V:b=true->aY E.N G x (tD rB q))(e1:b=true->some q=some t)(e0:b=false->some false=some t):cI E O G ⟨dst,.pick c x (.const (.bool false)),ty,pos,after,g⟩ (tD rB t):=by
 refine y5 hc (fun h=>?_) (fun h=>?_)
 ·rw [<-so (e1 h)];exact V h
 ·rw [<-so (e0 h)];exact hB
def jl{c:Operand}{q t:Bool}(hc:aY E.N G c (tD rB b))(V:b=false->aY E.N G x (tD rB q))(e1:(!b)=true->some q=some t)(e0:(!b)=false->some true=some t):cI E O G ⟨dst,.pick c (.const (.bool true)) x,ty,pos,after,g⟩ (tD rB t):=by
 refine y5 hc (fun h=>?_) (fun h=>?_)
 ·rw [<-so (e0 (by rw [h];rfl))];exact hB
 ·rw [<-so (e1 (by rw [h];rfl))];exact V h
def LK(hi:ts[i]? =some t)(V:aY E.N G x (tT ts)):cI E O G ⟨dst,.extract x i,ty,pos,after,g⟩ t:=
 .of_pure fun a w S _ _ hf=>by
  obtain⟨vs,X,K⟩:=V S a hf
  obtain⟨v,h3,h4⟩:=K.at_ i t hi
  exact⟨v,by simp [execOp,X,Instr.extract,h3],h4⟩
def TF{k:IntKind}{m n:Int}(V:aY E.N G x (tD (rI k) m))(hy:aY E.N G y (tD (rI k) n)):cI E O G ⟨dst,.call ⟨.builtin .min,#[x,y],ats⟩,ty,pos,after,g⟩ (tD (rI k) (min m n)):=
 .of_pure fun a w S _ _ hf=>by
  have X:a.eval x= .int k m:=eK.1 (V S a hf)
  have K:a.eval y= .int k n:=eK.1 (hy S a hf)
  refine⟨.int k (if n<m then n else m),by simp [execOp,resolve,invoke,builtin,Builtin.min_,Builtin.min2,X,K],eK.2 ?_⟩
  congr 1
  rw [Int.min_def]
  split<;>split<;>omega

def mI(P:Program){α β:Type}(args:α->List Ty)(res:β->Ty)(f:α->Option β):Ty where
 p:=fun S v=> ∃fid cap,v= .func (.func fid) #[] cap/\ah P fid=true/\ ∀x y,f x=some y-> ∀w S' vs,SH.le S S' ->nm w S' ->xH S' (args x) vs->
  Calls P fid (vs.toArray++cap) w fun e w' => ∃v S'',e= .returned v/\la uX w S' w' S'' /\nm w' S'' /\(res y).p S'' v
 mono:=fun h ⟨f,cap,e,hc,k⟩=>⟨f,cap,e,hc,fun x y hxy w S' vs hle=>k x y hxy w S' vs (SH.le_trans h hle)⟩
def Rt{N:Fr}{P:Program}{f:α->Option β}{fid:FuncId}(hc:ah P fid=true)(hs: ∀x y,f x=some y->cX P fid (args x) (res y)):aY N G (.func fid) (mI P args res f):=fun S a _=>
 ⟨fid,#[],rfl,hc,fun x y h w S' vs _ hsat hv=>by simpa using hs x y h w S' vs hsat hv⟩
def xH.append: ∀{ts us:List Ty} {vs ws:List Value},xH S ts vs->xH S us ws->xH S (ts++us) (vs++ws)
 |[],_,[],_,_,h=>h
 |_::_,_,_::_,_,⟨X,K⟩,h=>⟨X,xH.append K h⟩
def yk{f:α->Option β}{fid:FuncId}{caps:List Operand}{cts:List Ty}(hc:ah E.P fid=true)(hcap:lv E.N G caps cts)(hs: ∀x y,f x=some y->cX E.P fid (args x++cts) (res y)):cI E O G ⟨dst,.makeFunc (.func fid) #[] caps.toArray,ty,pos,after,g⟩ (mI E.P args res f):=
 .of_pure fun a w S _ _ hf=>by
  refine⟨.func (.func fid) #[] (caps.map a.eval).toArray,by simp [execOp,Instr.makeFunc],fid,_,rfl,hc,fun x y h w' S' vs hle hsat hv=>?_⟩
  have hcv:=(hcap.tys hf).mono hle
  simpa using hs x y h w' S' _ hsat (hv.append hcv)
def mO{f:α->Option β}{fo:Operand}{x:α}{y:β}{xs:List Operand}(hfo:aY E.N G fo (mI E.P args res f))(h:f x=some y)(V:lv E.N G xs (args x)):
  cI E O G ⟨dst,.call ⟨.value fo,xs.toArray,ats⟩,ty,pos,after,g⟩ (res y):=fun a w S hS _ hF=>by
 obtain⟨fid,cap,e,hc,hs⟩:=hfo S a hF
 have hr:(execOp a.eval ⟨dst,.call ⟨.value fo,xs.toArray,ats⟩,ty,pos,after,g⟩).run E.P w= .ok (.enter fid ((xs.map a.eval).toArray++cap)) w:=by
  simp [execOp,resolve,e,Deferred.ofValue,invoke,jf hc]
 refine⟨fun c h=>(by cases h),?_⟩
 rw [hr]
 exact(hs x y h w S _ (SH.le_refl _) hS (V.tys hF)).mono fun e w' ⟨v,S',he,X,K,h3⟩=>⟨v,he,v,S',rfl,X,K,h3⟩
end
def cX.of{P:Program}{N:Nat}(hf:P.funcs[f]? =some fn)(H:fn.body=some c)(hN:fn.ntmps=N)(hn:Nat.ble ts.length N=true)(h: ∀w0 S0,CG ⟨P,⟨N,[]⟩,uX,w0,S0,none⟩ (bodyPost P fn (KA ⟨P,⟨N,[]⟩,uX,w0,S0,none⟩ t)) c [] (zQ 0 ts)):cX P f ts t:=by
 subst hN
 exact IQ hf H (sn hn) h
def nn{α:Type _}{r:α}(h:(none:Option α)=some r):False:=by cases h
def tE{N:Fr}:aY N G (.const (.slice none 0 0)) (M (ay none 0 0)):=fun _ _ _=>rfl
def dk:Nat:=2^64
section
variable{E:En}{ty:TypeId}
def LE(l:Option Nat)(cap n:Nat)(h:l=none->n=0): ∃a c,ay l cap n= .slice a n c:=by
 cases l with
 |none=>rw [h rfl];exact⟨none,0,rfl⟩
 |some b=>exact⟨_,cap,rfl⟩
def ir{r:Rp α}{n:Nat}{t:TypeId}(D:E.P.underlying t=some (.slice e))(hm:nd mm r T l cap xs∈O)(V:aY E.N G x (M (ay l cap n)))(hn:n=xs.length:=by rfl):
  cI E O G ⟨dst,.call ⟨.builtin .len,#[x],#[t]⟩,ty,pos,after,g⟩ (tD (rI .i64) (n:Int)):=
 .of_pure fun a w S _ ho hf=>by
  have X:a.eval x=ay l cap n:=V S a hf
  have K:=(ho.mem _ hm).1
  obtain⟨ad,c,h3⟩:=LE l cap n (fun e=>by subst e;obtain⟨_,h4,_⟩:=K;rw [hn];exact h4.1)
  refine⟨.int .i64 n,?_,eK.2 rfl⟩
  simp [execOp,resolve,invoke,builtin,Builtin.len_,j3 D,X,h3,goInt]
end

structure KY(P:Program){α:Type} [DecidableEq α](t:TypeId)(r:Rp α):Prop where
 guard:P.eqGuardType P.depth t=false
 run: ∀(S:SH) (cs ds:List Value) (x y:α) (aR:Nat) (w:World),r.rc S cs x->r.rc S ds y->(Op.equalIn (aR+20) t (r.val cs) (r.val ds)).run P w= .ok (decide (x=y)) w
section
variable{E:En}{ty:TypeId}
def C3{P:Program}{t:TypeId}(h:P.eqGuardType P.depth t=false){op:BinOp}{x y:Operand}{u v:Array Value}{w:World}:(eqGuard op t x y (.agg u) (.agg v)).run P w= .ok () w:=by
 unfold eqGuard
 cases op<;>first|rfl|simp [h]
def tI{r:Rp α}(h:r.agg=true)(cs:List Value):r.val cs= .agg cs.toArray:=by unfold Rp.val;rw [bJ h]
def y6 [DecidableEq α]{r:Rp α}{m n:α}(he:KY E.P xt r)(V:aY E.N G x (tD r m))(hy:aY E.N G y (tD r n))(ha:r.agg=true:=by rfl):cI E O G ⟨dst,.binOp .eql xt x y yt,ty,pos,after,g⟩ (tD rB (decide (m=n))):=
 .of_pure fun a w S _ _ hf=>by
  obtain⟨cs,X,K⟩:=V S a hf
  obtain⟨ds,h3,h4⟩:=hy S a hf
  refine⟨.bool (decide (m=n)),?_,jc.2 rfl⟩
  have hr:=he.run S cs ds m n 9980 w K h4
  have Y:= @C3 E.P xt he.guard .eql x y cs.toArray ds.toArray w
  rw [tI ha,tI ha]at hr
  simp only [execOp,X,h3,tI ha,uU,Y,vY,binOp,Op.equal,Op.maxDepth]
  rw [show(10000:Nat)=9980+20 from rfl,hr]
  simp
def vm [DecidableEq α]{r:Rp α}{m n:α}(he:KY E.P xt r)(V:aY E.N G x (tD r m))(hy:aY E.N G y (tD r n))(ha:r.agg=true:=by rfl):cI E O G ⟨dst,.binOp .neq xt x y yt,ty,pos,after,g⟩ (tD rB (!decide (m=n))):=
 .of_pure fun a w S _ _ hf=>by
  obtain⟨cs,X,K⟩:=V S a hf
  obtain⟨ds,h3,h4⟩:=hy S a hf
  refine⟨.bool (!decide (m=n)),?_,jc.2 rfl⟩
  have hr:=he.run S cs ds m n 9980 w K h4
  have Y:= @C3 E.P xt he.guard .neq x y cs.toArray ds.toArray w
  rw [tI ha,tI ha]at hr
  simp only [execOp,X,h3,tI ha,uU,Y,vY,binOp,Op.equal,Op.maxDepth]
  rw [show(10000:Nat)=9980+20 from rfl,hr]
  simp
end

def s3{base:Nat}{B:Nat->Prop}(h:fe base B w S O)(k:la uX w S w' S'){e:OE}(he:e.p w' S')(hn: ∀b,e.fp b->w.heap.size<=b)(H:base<=w.heap.size:=by first|assumption|exact St.base_le (by assumption)):fe base B w' S' (e::O):=
 ⟨⟨he,fun b hb' => .inl (xR H (hn b hb'))⟩,fun f hf b hb' hfb=>by
  have:=f.here (fe.mem h f hf).1 b hfb
  have:=hn b hb'
  omega,h.ext0 k⟩
def gm(P:Program)(f:FuncId)(ts:List Ty)(mm:Bool){α:Type}(r:Rp α)(T:TypeId)(xs:List α):Prop:=
 ∀w S vs,nm w S->xH S ts vs->Calls P f vs.toArray w fun e w' => ∃l cap S',e= .returned (ay l cap xs.length)/\la uX w S w' S' /\nm w' S' /\(nd mm r T l cap xs).holds w.heap.size uX w' S'
def Ls{r:Rp α}(h:(nd mm r T l cap xs).holds w.heap.size uX w' S')(he:la uX w S w' S')(hs:nm w' S'):
  ∃S'',la uX w S w' S'' /\nm w' S'' /\(tD (f6 r) xs).p S'' (ay l cap xs.length):=by
 have st:St ⟨default,⟨0,[]⟩,uX,w,S,none⟩ [nd mm r T l cap xs] [] ⟨#[],[]⟩ w' S' :=⟨he,hs,⟨h,fun _ hf=>(by cases hf),trivial⟩,⟨rfl,rfl,fun _ _ h=>(by simp [cC]at h)⟩⟩
 obtain⟨S'',X,K⟩:=st.settle
 exact⟨S'',X.ext,X.sat,K⟩
def gm.spec{P:Program}{r:Rp α}(h:gm P f ts mm r T xs):cX P f ts (tD (f6 r) xs):=fun w S vs hs hv=>
 (h w S vs hs hv).mono fun e w' ⟨l,cap,S',he,X,K,h3⟩=>by
  obtain⟨S'',h4,h5,h6⟩:=Ls h3 X K
  exact⟨_,S'',he,h4,h5,h6⟩
def Z2(E:En)(mm:Bool){α:Type}(r:Rp α)(T:TypeId)(xs:List α):Ending->World->Prop:=fun e w' => ∃l cap S',e= .returned (ay l cap xs.length)/\la E.B E.w0 E.S0 w' S' /\nm w' S' /\(nd mm r T l cap xs).holds E.w0.heap.size E.B w' S'
def gm.of{P:Program}{N:Nat}{r:Rp α}(hf:P.funcs[f]? =some fn)(H:fn.body=some c)(hN:fn.ntmps=N)(hn:Nat.ble ts.length N=true)(h: ∀w0 S0,CG ⟨P,⟨N,[]⟩,uX,w0,S0,none⟩ (bodyPost P fn (Z2 ⟨P,⟨N,[]⟩,uX,w0,S0,none⟩ mm r T xs)) c [] (zQ 0 ts)):gm P f ts mm r T xs:=by
 subst hN
 intro w S vs hs hv
 exact xi.1 (callsIn_of_wp (F:=fw none) (n:=0) hf H trivial (h w S _ w S ⟨jS _ _ _,hs,trivial,Ax hv _ (sn hn)⟩))
section
variable{E:En}
def fL{P:Program}{N:Nat}{B:Nat->Prop}{w0:World}{S0:SH}{r:Rp α}{n:Nat}(hr:fn.results= #[.tmp k])(hk:cC G k=some (M (ay l cap n)))(hn:n=xs.length:=by rfl):
  AT ⟨P,⟨N,[]⟩,B,w0,S0,none⟩ (bodyPost P fn (Z2 ⟨P,⟨N,[]⟩,B,w0,S0,none⟩ mm r T xs)) .ret (nd mm r T l cap xs::O) G:=fun a w S st=>by
 subst hn
 have hv:a.tmps.getD k undef=ay l cap xs.length:=st.facts.at_ k _ hk
 exact⟨st.facts.defers,_,tu P fn k hr _ _,l,cap,S,by rw [hv],st.ext,st.sat,st.own.1⟩
section
variable{ty:TypeId}
def PH{xs:List Operand}{r:Rp α}{u:Nat->Option Nat->Ty}(hc:ah E.P f=true)(hs:gm E.P f ts mm r T ys)(V:lv E.N G xs ts)(hd:Nat.blt aR E.N.n=true)(hu: ∀l cap w0 S,(nd mm r T l cap ys).p w0 S->(u cap l).p S (ay l cap ys.length))(k: ∀l cap,RG E ops aK rest (nd mm r T l cap ys::O) ((aR,u cap l)::G)):
  RG E ops aK (⟨some aR,.call ⟨.value (.func f),xs.toArray,ats⟩,ty,pos,after,none⟩::rest) O G:= .of rfl fun a w S st=>by
 have hr:(execOp a.eval ⟨some aR,.call ⟨.value (.func f),xs.toArray,ats⟩,ty,pos,after,none⟩).run E.P w= .ok (.enter f (xs.map a.eval).toArray) w:=by
  simp [execOp,resolve,Act.eval,Deferred.ofValue,invoke,jf hc]
 refine⟨fun c h=>(by cases h),?_⟩
 rw [hr]
 refine(hs w S _ st.sat (V.tys st.facts)).mono fun e w' ⟨l,cap,S',he,X,K,h3⟩=>⟨_,he,?_⟩;refine k l cap _ _ S' ⟨st.ext.step0 X,K,s3 st.own X h3.1 (fun b H=>(h3.2 b H).resolve_right id) st.base_le,(st.facts.mono X.keep).put hd (hu l cap w' S' h3.1)⟩
def SE{xs:List Operand}{r:Rp α}(hc:ah E.P f=true)(hs:gm E.P f ts false r T ys)(V:lv E.N G xs ts)(hd:Nat.blt aR E.N.n=true)(k: ∀l cap,RG E ops aK rest (db r T l cap ys::O) ((aR,M (ay l cap ys.length))::G)):
  RG E ops aK (⟨some aR,.call ⟨.value (.func f),xs.toArray,ats⟩,ty,pos,after,none⟩::rest) O G:=PH (u:=fun cap l=>M (ay l cap ys.length)) hc hs V hd (fun _ _ _ _ _=>rfl) k
def kD{r:Rp α}{xs:List Operand}{parts:List (Nat×Operand)}{t:TypeId}{n sz:Nat}{agg:Bool}(D:E.P.underlying t=some (.slice T))(ti:TI E.P T sz bytes agg z)(hsz:r.sz=sz)(h0:Nat.blt 0 sz=true)(hp:parts=zT 0 xs)(hn:n=ys.length)(H:Nat.ble (n*sz) 16777216=true)(V:lv E.N G xs (ys.map (tD r)))(hd:Nat.blt aR E.N.n=true)(k: ∀l cap,RG E ops aK rest (db r T l cap ys::O) ((aR,M (ay l cap ys.length))::G)):
  RG E ops aK (⟨some aR,.buildSlice t n parts.toArray,ty,pos,after,none⟩::rest) O G:= .of rfl fun a w S st=>by
 obtain⟨cs,hc,hr⟩:=xZ D ti hsz hn H (V.tys st.facts) w
 subst hsz
 subst hp
 have hb' :=sn H
 have h0' :0<r.sz:=by simpa [vD] using h0
 have hnle:n<=n*r.sz:=Nat.le_mul_of_pos_right n h0'
 have hcl:=ll hc
 obtain⟨he,hs',hno⟩:=ki (w:=w) (.cells cs.toArray T (0,0)) st.sat
 have hrun:(execOp a.eval ⟨some aR,.buildSlice t n (zT 0 xs).toArray,ty,pos,after,none⟩).run E.P w= .ok (.value (.slice (some ⟨w.heap.size,0,none⟩) n n)) (w.alloc (.cells cs.toArray T (0,0))):=by
  simp only [execOp,uU,hr,vY,Sem.run_pure]
 refine⟨fun c h=>(by cases h),?_⟩
 rw [hrun]
 refine k (some w.heap.size) n _ _ S ⟨st.ext.step0 he,hs',s3 st.own he ⟨cs,⟨cs.toArray,xS w _,by omega,by simp only [maxLen];omega,by simp [hcl,hn],by simp [<-hcl]⟩,hc,fun b H=>by rw [<-rE H];exact hno⟩ (fun b H=>AR (rE H)) st.base_le,st.facts.put hd ?_⟩
 ·show _=ay _ _ _
  rw [<-hn];rfl
def KN{r:Rp α}{t:TypeId}(D:E.P.underlying t=some (.slice e))(V:aY E.N G x (tD (f6 r) xs))(hd:Nat.blt aR E.N.n=true)(k: ∀b,(b=true->xs=[])->RG E ops aK rest O ((aR,tD rB b)::G)):RG E ops aK (⟨some aR,.binOp .eql t x (.const (.slice none 0 0)) yt,ty,pos,after,none⟩::rest) O G:= .of rfl fun a w S st=>by
 obtain⟨ad,cap,X,_,_,K⟩:=mf.1 (V S a st.facts)
 have hrun:(execOp a.eval ⟨some aR,.binOp .eql t x (.const (.slice none 0 0)) yt,ty,pos,after,none⟩).run E.P w= .ok (.value (.bool ad.isNone)) w:=by
  have h3:(Op.equal t (.slice ad xs.length cap) (.slice none 0 0)).run E.P w= .ok ad.isNone w:=yX fun aR=>by
   cases ad<;>simp [Op.equalIn,j3 D]
  have hcn:a.eval (.const (.slice none 0 0))= .slice none 0 0:=rfl
  simp [execOp,X,hcn,eqGuard,binOp,h3]
 refine⟨fun c h=>(by cases h),?_⟩
 rw [hrun]
 refine k ad.isNone (fun e=>?_) _ _ S (st.step (jS _ _ _) st.sat hd (jc.2 rfl))
 rcases K with K|⟨b,off,c,T,fr,e1,_⟩
 ·exact K
 ·subst e1;cases e
end
end

def Z(b off:Nat):Value:= .pointer (some ⟨b,off,none⟩)
def bx{α:Type}(r:Rp α)(T:TypeId)(b:Nat)(x:α):OE where
 fp:=fun k=>k=b
 p:=fun w S=>S b=none/\ ∃c,w.heap[b]? =some (.cells c T (0,0))/\r.rc S c.toList x
 here:=by
  intro w S h k hk
  subst hk
  obtain⟨X,c,K,_⟩:=h
  exact(Hz.1 K).1
 kept:=by
  intro C w w' S S' h k hC
  obtain⟨X,c,K,h3⟩:=h
  have hlt:=(Hz.1 K).1
  exact⟨by rw [k.old b hlt (hC b rfl)];exact X,c,by rw [k.heap b hlt (hC b rfl)];exact K,r.mono k.keep h3⟩
def rV:Rp Value where
 sz:=1
 agg:=false
 rc:=fun _ cs v=>cs=[v]/\v.oneCell' =true
 mono:=fun _ h=>h
 len:=fun h=>by rw [h.1];rfl
 one:=fun h c hc=>by rw [h.1]at hc;simp at hc;subst hc;exact h.2
 sc:=fun _=>rfl
def yV{u:Value}:(tD rV u).p S v↔v=u/\u.oneCell' =true:=by
 constructor
 ·rintro⟨cs,rfl,X,K⟩;subst X;exact⟨rfl,K⟩
 ·rintro⟨rfl,h⟩;exact⟨[v],rfl,rfl,h⟩
def gg{α β:Type}(r:Rp α)(off:Nat)(q:Rp β)(set:α->β->α):Prop:= ∀S cs x ds y,r.rc S cs x->q.rc S ds y->r.rc S (cs.take off++ds++cs.drop (off+q.sz)) (set x y)
section
variable{E:En}{e:Exit}
def St.settleB{r:Rp α}{b:Nat}{x:α}(h:St E (bx r T b x::O) G a w S)(hk:cC G k=some (M (Z b 0))): ∃S',St E O ((k,ck r x)::G) a w S' :=by
 obtain⟨⟨hn,cur,h3,h4⟩,_⟩:=h.own.1
 obtain⟨h8,hle,_,_⟩:=Ac h rfl h3 (uA _) hn
 have hv:a.tmps.getD k undef=Z b 0:=h.facts.at_ k _ hk
 refine⟨_,h8.cons ⟨b,0,cur,T,(0,0),hv,by simp [SH.set],?_⟩⟩
 have hl:cur.size=r.sz:=by have:=r.len h4;simpa using this
 have:=r.mono hle h4
 rw [zr,uj (by simp [hl])];exact this
def bj{r:Rp α}{b:Nat}{x:α}(k:Nat)(hk:cC G k=some (M (Z b 0)))(h:RG E ops aK rest O ((k,ck r x)::G)):RG E ops aK rest (bx r T b x::O) G:=
 fun a w _ st=>let⟨S',st'⟩:=st.settleB hk;h a w S' st'
def iT{r:Rp α}{b:Nat}{x:α}(k:Nat)(hk:cC G k=some (M (Z b 0)))(h:AT E aK e O ((k,ck r x)::G)):AT E aK e (bx r T b x::O) G:=
 fun a w _ st=>let⟨S',st'⟩:=st.settleB hk;h a w S' st'
section
variable{ty:TypeId}
def bz{r:Rp α}{x:α}{sz:Nat}{agg:Bool}(ti:TI E.P T sz bytes agg z)(V: ∀S,r.rc S z x)(hd:Nat.blt aR E.N.n=true)(k: ∀b,RG E ops aK rest (bx r T b x::O) ((aR,M (Z b 0))::G)):RG E ops aK (⟨some aR,.alloc T,ty,pos,after,none⟩::rest) O G:= .of rfl fun a w S st=>by
 obtain⟨zv,hzr,hzc⟩:=ti.zero w
 obtain⟨he,hs',hno⟩:=ki (w:=w) (.cells z.toArray T (0,0)) st.sat
 have hrun:(execOp a.eval ⟨some aR,.alloc T,ty,pos,after,none⟩).run E.P w= .ok (.value (Z w.heap.size 0)) (w.alloc (.cells z.toArray T (0,0))):=by
  simp [execOp,Instr.alloc,hzr,newVar,newRow,hzc,Z]
 refine⟨fun c h=>(by cases h),?_⟩
 rw [hrun]
 exact k w.heap.size _ _ S ⟨st.ext.step0 he,hs',s3 st.own he ⟨hno,z.toArray,xS w _,by simpa using V S⟩ (fun b H=>AR H.symm) st.base_le,st.facts.put hd rfl⟩
def qV{r:Rp α}{v:α}(V:aY E.N G x (tD r v))(hd:Nat.blt aR E.N.n=true)(k: ∀b,RG E ops aK rest (bx r T b v::O) ((aR,M (Z b 0))::G)):RG E ops aK (⟨some aR,.box T x,ty,pos,after,none⟩::rest) O G:= .of rfl fun a w S st=>by
 obtain⟨cs,hv,hc⟩:=V S a st.facts
 obtain⟨he,hs',hno⟩:=ki (w:=w) (.cells cs.toArray T (0,0)) st.sat
 have hrun:(execOp a.eval ⟨some aR,.box T x,ty,pos,after,none⟩).run E.P w= .ok (.value (Z w.heap.size 0)) (w.alloc (.cells cs.toArray T (0,0))):=by
  simp [execOp,Instr.box,newVar,newRow,hv,v7 hc,Z]
 refine⟨fun c h=>(by cases h),?_⟩
 rw [hrun]
 exact k w.heap.size _ _ S ⟨st.ext.step0 he,hs',s3 st.own he ⟨hno,cs.toArray,xS w _,by simpa using hc⟩ (fun b H=>AR H.symm) st.base_le,st.facts.put hd rfl⟩
def oN{base:Nat}{B:Nat->Prop}{b:Nat}(hs:nm w S)(f f' :OE)(h:fe base B w S (f::O))(hf: ∀k,f.fp k↔k=b)(hf' : ∀k,f'.fp k↔k=b)(Y:w'.os=w.os/\w'.tape=w.tape/\w'.output=w.output/\w'.heap.size=w.heap.size/\w.drawn<=w'.drawn)(ho: ∀k,k≠b->w'.heap[k]? =w.heap[k]?)(hp:f'.p w' S)(hno:S b=none):la (fun k=>k=b) w S w' S/\nm w' S/\fe base B w' S (f' ::O):=by
 have hext:la (fun k=>k=b) w S w' S:=⟨Y.1,Y.2.1,Y.2.2.1,Y.2.2.2.2,by omega,fun k _ hk=>ho k hk,SH.le_refl _,fun _ _ _=>rfl⟩
 refine⟨hext,hs.same fun k o hk=>?_,⟨hp,fun k hk=>h.1.2 k ((hf k).2 ((hf' k).1 hk))⟩,fun g hgm k hk=>h.2.1 g hgm k ((hf k).2 ((hf' k).1 hk)),h.2.2.ext hext fun g hgm k hk hkb=>h.2.1 g hgm k ((hf k).2 hkb) hk⟩
 have hne:k≠b:=fun e=>by subst e;rw [hno]at hk;cases hk
 exact ho k hne
def kW{P:Program}{q:Rp α}{sz:Nat}{agg:Bool}(ti:TI P U sz bytes agg z)(hsz:q.sz=sz){ds:List Value}{y:α}(hy:q.rc S ds y){b:Nat}{cur:Array Value}(Y:w.heap[b]? =some (.cells cur T (0,0)))(hfit:off+q.sz<=cur.size):
  ∃w',(storeVar U ⟨b,off,none⟩ (q.val ds)).run P w= .ok () w' /\w'.os=w.os/\w'.tape=w.tape/\w'.output=w.output/\(w'.heap.size=w.heap.size/\w.drawn<=w'.drawn)/\w'.heap[b]? =some (.cells (cur.toList.take off++ds++cur.toList.drop (off+q.sz)).toArray T (0,0))/\ ∀k,k≠b->w'.heap[k]? =w.heap[k]? :=by
 have hl:=q.len hy
 have hst:=run_storeCells_at P b off T ds 0 cur w Y (by omega) (q.one hy)
 simp only [CK]at hst
 refine⟨w.setRow b (cur.toList.take off++ds++cur.toList.drop (off+ds.length)).toArray,?_,rfl,rfl,rfl,⟨?_,eJ _⟩,?_,fun k hk=>setRow_other w b k _ hk⟩
 ·generalize (cur.toList.take off++ds++cur.toList.drop (off+ds.length)).toArray=h1 at hst ⊢
  simp only [storeVar,uU,ti.sizeOf,vY,v7 hy,Gh,hl,hsz]
  simp only [ne_eq,not_true_eq_false,oV]
  simpa using hst
 ·simp [World.setRow]
 ·rw [setRow_heap w b cur _ T _ Y,<-hl]
def ek{r:Rp α}{set:α->β->α}{x:α}{y:β}{b sz:Nat}{agg:Bool}{p v:Operand}(ti:TI E.P U sz bytes agg z)(hsz:q.sz=sz)(hset:gg r off q set)(hoff:Nat.ble (off+q.sz) r.sz=true)(hp:aY E.N G p (M (Z b off)))(hv:aY E.N G v (tD q y))(k:RG E ops aK rest (bx r T b (set x y)::O) G):RG E ops aK (⟨none,.store U p v,ty,pos,after,none⟩::rest) (bx r T b x::O) G:= .of rfl fun a w S st=>by
 have X:a.eval p=Z b off:=hp S a st.facts
 obtain⟨ds,K,h3⟩:=hv S a st.facts
 obtain⟨⟨hno,cur,h5,h6⟩,_⟩:=st.own.1
 have hl:=r.len h6
 have hoff' :=sn hoff
 obtain⟨w',hr,e1,e2,e3,e4,e5,e6⟩:=kW ti hsz h3 h5 (off:=off) (by simp at hl;omega)
 have hrun:(execOp a.eval ⟨none,.store U p v,ty,pos,after,none⟩).run E.P w= .ok .skip w' :=by
  simp [execOp,X,K,Instr.storeAt,Z,Instr.sureAddr,hr]
 refine⟨fun c h=>(by cases h),?_⟩
 rw [hrun]
 obtain⟨g1,g2,g3⟩:=oN (O:=O) st.sat (bx r T b x) (bx r T b (set x y)) st.own (fun _=>uk) (fun _=>uk) ⟨e1,e2,e3,e4.1,e4.2⟩ e6 ⟨hno,_,e5,by simpa using hset S _ _ _ _ h6 h3⟩ hno
 exact k _ _ S ⟨st.ext.step g1 (fun c hc=>st.own.1.2 c hc),g2,g3,st.facts⟩
def aB{r:Rp α}:gg r 0 r (fun _ y=>y):=fun S cs x ds y X K=>by
 have hl:=r.len X
 simpa [<-hl] using K
end
section
variable{ty:TypeId}
def F2{sz b o:Nat}{p:Operand}(hf:bZ E.P T i=some (off,sz))(h0:Nat.beq sz 0=false)(hp:aY E.N G p (M (Z b o))):cI E O G ⟨dst,.fieldAddr T p i,ty,pos,after,g⟩ (M (Z b (o+off))):=
 .of_pure fun a w S _ _ hF=>by
  have X:a.eval p=Z b o:=hp S a hF
  obtain⟨fs,f,e1,e2,e3,e4⟩:=GK hf
  have h0' :sz≠0:=fun e=>by subst e;simp at h0
  refine⟨Z b (o+off),?_,rfl⟩
  simp [execOp,X,Z,Instr.fieldAt,j3 e1,e2,Instr.sureAddr,fieldPlace,e4,h0',e3,jR]
def aL{r:Rp α}{get:α->β}{x:α}{b sz:Nat}{agg:Bool}{p:Operand}(ti:TI E.P U sz bytes agg z)(hsz:q.sz=sz)(hag:q.agg=agg)(hget:md r off q get)(hm:bx r T b x∈O)(hp:aY E.N G p (M (Z b off))):
  cI E O G ⟨dst,.load U p,ty,pos,after,g⟩ (tD q (get x)):=
 .of_pure fun a w S _ ho hf=>by
  have X:a.eval p=Z b off:=hp S a hf
  obtain⟨⟨_,cur,h5,h6⟩,_⟩:=ho.mem _ hm
  have h7:=hget S _ _ h6
  refine⟨_,?_,_,rfl,h7⟩
  simp [execOp,X,Z,Instr.loadAt,Instr.sureAddr,ko ti h5 hsz hag h7]
def bC{r:Rp α}:md r 0 r (fun x=>x):=fun S cs x h=>by
 have hl:=r.len h
 simpa [<-hl] using h
end
end
end Go.Proofs.YtdohlidddcgfjaaGreat

