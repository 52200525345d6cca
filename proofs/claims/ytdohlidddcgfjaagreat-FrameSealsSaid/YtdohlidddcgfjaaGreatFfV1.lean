/- bS of this claim: W1, W49, W2, W3, W4, W5, W6, W7, W8, W9, W10, W11, W12, W13. -/
import Derived.WalkKit
import Derived.Orders
import Derived.Lone
import Derived.RunT
import Derived.Calls
import Derived.RangeFuncIn
import Derived.TacticsIn
import Derived.OrdersIn
import Derived.LoopIn
import Derived.Laws.AppendOwn
import Derived.Deep.Upon
import Derived.Lib.AppendStr
import Derived.IntWalk
set_option linter.all false
-- TABI
namespace Go.Proofs.YtdohlidddcgfjaaGreat
open Go
def bf:= @Option.bind_some
def aQ:= @if_neg
def bh:= @if_pos
def ly:= @Bool.and_eq_true
def nM:= @List.mem_cons_self
def pK:= @List.mem_cons_of_mem
def sy:= @List.getElem?_eq_some_iff
def sH:= @List.getElem?_eq_getElem
def hZ:= @List.append_assoc
def ig:= @decide_eq_true_eq
def eo:= @Nat.le_refl
def iG:= @List.length_cons
def kj:= @List.length_append
def jt:= @run_underlying
def kU:= @List.all_eq_true
def sd:= @List.eq_nil_of_length_eq_zero
def jl:= @List.mem_cons
def pG:= @Nat.eq_of_beq_eq_true
def mh:= @List.nil_append
def oj:= @Bool.false_eq_true
def sb:= @Nat.le_of_ble_eq_true
def sL:= @List.take_append_drop
def ul:= @List.take_of_length_le
def nN:= @Bool.true_and
def pM:= @Option.map_some
def xf:= @List.getElem?_append_right
def p6:= @List.append_nil
def tu:= @List.mem_of_getElem?
def qE:= @Option.some.inj
def oc:= @Nat.lt_or_ge
def rl:= @IntKind.wrap_i64
def AD:= @List.take_append_of_le_length
def uk:= @List.mem_singleton
def y9:= @List.getElem?_take_of_lt
def zJ:= @List.getElem?_append_left
def jR:= @if_true
def zI:= @Array.getElem?_replicate
def uY:= @Int.toNat_natCast
def pL:= @Nat.zero_le
def lI:= @if_false
def vX:= @List.getElem?_drop
def vl:= @Result.andThen_ok
def oY:= @beq_iff_eq
def sJ:= @List.drop_drop
def ui:= @List.mem_append
def B0:= @List.drop_eq_getElem_cons
def sI:= @Bool.not_true
def xu:= @Nat.lt_of_lt_of_le
def vk:= @List.length_nil
def xd:= @IntKind.wrap_u64
def AC:= @Nat.mul_le_mul_right
def uX:= @Bool.false_or
def vW:= @Bool.and_assoc
def uh:= @Sem.run_bind
def xq:= @Nat.min_eq_left
def xp:= @Bool.eq_iff_iff
def HT:= @Array.getD_eq_getD_getElem?
def y7:= @Bool.or_eq_true
def vj:= @Nat.zero_add
def Az:= @List.flatMap_cons
def HS:= @Array.getElem?_eq_some_iff
def Ay:= @Bool.not_eq_true
def FV:= @Option.map_eq_some_iff
def FU:= @List.drop_eq_nil_of_le
def zF:= @List.drop_zero
def uW:= @Nat.blt_eq
def BZ:= @decide_eq_decide
def y6:= @getD_set_true
def BY:= @Nat.lt_succ_self
def Df:= @Bool.not_eq_true'
def HR:= @List.drop_of_length_le
def Ax:= @List.take_take
def BX:= @List.length_set
def BW:= @IntKind.wrap_u8
def De:= @List.cons_append
def Dd:= @List.length_drop
def xo:= @Nat.add_mul
def D1:= @List.any_eq_true
def D0:= @List.take_length
def DZ:= @List.length_take
def PB:= @List.drop_append_of_le_length
def Jz:= @List.drop_eq_nil_iff
def CN:= @Bool.and_eq_true_iff
def xx:= @heap_alloc_new
def AM:= @Option.bind_assoc
def AL:= @Function.comp_def
def CM:= @Array.length_toList
def Ea:= @List.length_replicate
def D9:= @List.getElem?_eq_none
def wY:= @Nat.sub_self
def xw:= @List.cons.inj
def zf:= @List.drop_take
def D8:= @List.mem_append_left
def Gz:= @List.getElem?_cons_zero
def tw:= @mem_ready
def AK:= @Option.bind_map
def wX:= @getD_set_ne
def wW:= @Prod.mk.inj
def CL:= @List.getElem_mem
def AJ:= @Bool.not_false
def CJ:= @decide_eq_false
def ze:= @Nat.le_trans
def D4:= @Bool.eq_false_iff
def AI:= @List.all_cons
def Gy:= @List.map_congr_left
def xv:= @bne_iff_ne
def AH:= @Nat.mul_succ
def AG:= @List.mem_map
def AF:= @Nat.le_of_eq
def tv:= @Iff.rfl
def JD:= @List.contains_iff_mem
def CI:= @Bool.or_false
def N0:= @Int.fdiv_eq_ediv_of_nonneg
def Gw:= @List.size_toArray
def AE:= @Nat.mul_one
def Rs:= @List.take_succ_eq_append_getElem
def CH:= @Bool.or_true
def NZ:= @Nat.add_right_cancel_iff
def NY:= @Option.isSome_iff_exists
def CF:= @Nat.add_zero
def NX:= @decide_eq_false_iff_not
def D3:= @List.map_cons
def Gv:= @List.length_map
def NW:= @Array.toList_replicate
def NV:= @MapKept.run_getObj_map
def JC:= @List.any_eq_false
def JB:= @List.getElem?_map
def NU:= @List.countP_replicate
def D2:= @Bool.true_or
def NT:= @MapKept.run_checkKey
def JA:= @List.mem_reverse

def Jy:Obj->Obj->Prop
 | .cells c E fr,o' => ∃h3:List Value,o' = .cells (c.toList++h3).toArray E fr
 |o,o' =>o' =o
variable{o:Oper}
def tS(o:Obj):Jy o o:=by
 cases o<;>first|rfl|exact⟨[],by simp⟩
variable{c:Code}{cells:List Value}{h3:Nat}{fr:Nat×Nat}{k:Nat}{o' :Obj}
def Hb{o o'' :Obj}(h:Jy o o')(k:Jy o' o''):Jy o o'' :=by
 cases o with
 |cells c E fr=>
  obtain⟨h3,rfl⟩:=h
  obtain⟨d',rfl⟩:=k
  exact⟨h3++d',by simp⟩
 |_=>cases h;exact k
variable{off:Nat}
def EU{c:Array Value}{E:TypeId}(h:Jy (.cells c E fr) o'){n:Nat}(hl:((c.toList.drop off).take n).length=n):
  ∃c',o' = .cells c' E fr/\(c'.toList.drop off).take n=(c.toList.drop off).take n:=by
 obtain⟨h3,rfl⟩:=h
 refine⟨_,rfl,?_⟩
 by_cases hn:n=0
 ·subst hn;simp
 simp only [DZ,Dd]at hl
 rw [PB (by omega),AD (by simp only [Dd];omega)]
abbrev SH:=Nat->Option Obj
def SH.le(S S' :SH):Prop:= ∀b o,S b=some o-> ∃o',S' b=some o' /\Jy o o'
variable{S:SH}
def SH.le_refl(S:SH):SH.le S S:=fun _ o h=>⟨o,h,tS o⟩
variable{S' S'' :SH}{b:Bool}{e:TypeId}
def SH.le_trans(h:SH.le S S')(k:SH.le S' S''):SH.le S S'' :=fun b o e=>let⟨o',Y,X⟩:=h b o e;let⟨o'',d,h4⟩:=k b o' Y;⟨o'',d,Hb X h4⟩
structure Ty where
 p:SH->Value->Prop
 mono: ∀{S S' :SH} {v:Value},SH.le S S' ->p S v->p S' v

structure Rp(α:Type) where
 sz:Nat
 agg:Bool
 rc:SH->List Value->α->Prop
 mono: ∀{S S' :SH} {cs:List Value} {x:α},SH.le S S' ->rc S cs x->rc S' cs x
 len: ∀{S:SH} {cs:List Value} {x:α},rc S cs x->cs.length=sz
 one: ∀{S:SH} {cs:List Value} {x:α},rc S cs x-> ∀c∈cs,c.oneCell' =true
 sc:agg=false->sz=1

def Rp.val{α:Type}(r:Rp α)(cs:List Value):Value:=if r.agg then .agg cs.toArray else cs.headD undef

def tD{α:Type}(r:Rp α)(x:α):Ty where
 p:=fun S v=> ∃cs,v=r.val cs/\r.rc S cs x
 mono:=fun h ⟨cs,e,k⟩=>⟨cs,e,r.mono h k⟩

def Ek:Ty where
 p:=fun _ _=>True
 mono:=fun _ _=>trivial

def Z(u:Value):Ty where
 p:=fun _ v=>v=u
 mono:=fun _ h=>h

def rI(k:IntKind):Rp Int where
 sz:=1
 agg:=false
 rc:=fun _ cs x=>cs=[.int k x]
 mono:=fun _ h=>h
 len:=fun h=>by rw [h];rfl
 one:=fun h c hc=>by subst h;simp at hc;subst hc;rfl
 sc:=fun _=>rfl

def rB:Rp Bool where
 sz:=1
 agg:=false
 rc:=fun _ cs x=>cs=[.bool x]
 mono:=fun _ h=>h
 len:=fun h=>by rw [h];rfl
 one:=fun h c hc=>by subst h;simp at hc;subst hc;rfl
 sc:=fun _=>rfl

abbrev Po:=List UInt8
def rS:Rp Po where
 sz:=1
 agg:=false
 rc:=fun _ cs x=>cs=[.string ⟨x.toArray⟩]
 mono:=fun _ h=>h
 len:=fun h=>by rw [h];rfl
 one:=fun h c hc=>by subst h;simp at hc;subst hc;rfl
 sc:=fun _=>rfl

variable{cs:List Value}{v:Value}
def dI{k:IntKind}{n:Int}:(tD (rI k) n).p S v↔v= .int k n:=by
 constructor
 ·rintro⟨cs,rfl,h⟩;have h' :cs=[.int k n]:=h;subst h';rfl
 ·rintro rfl;exact⟨[.int k n],rfl,rfl⟩
def ju:(tD rB b).p S v↔v= .bool b:=by
 constructor
 ·rintro⟨cs,rfl,h⟩;have h' :cs=[.bool b]:=h;subst h';rfl
 ·rintro rfl;exact⟨[.bool b],rfl,rfl⟩
variable{ae:Po}
def B4:(tD rS ae).p S v↔v= .string ⟨ae.toArray⟩:=by
 constructor
 ·rintro⟨cs,rfl,h⟩;have h' :cs=[.string ⟨ae.toArray⟩]:=h;subst h';rfl
 ·rintro rfl;exact⟨[.string ⟨ae.toArray⟩],rfl,rfl⟩

def rh{α:Type}(r:Rp α)(S:SH):List Value->List α->Prop
 |cs,[]=>cs=[]
 |cs,x::xs=> ∃a b,cs=a++b/\r.rc S a x/\rh r S b xs
variable{a:Act}{α:Type}{xs:List α}
def sm{α:Type}{r:Rp α}{S S' :SH}(h:SH.le S S'): ∀{xs:List α} {cs:List Value},rh r S cs xs->rh r S' cs xs
 |[],_,k=>k
 |_::_,_,⟨a,b,e,Y,X⟩=>⟨a,b,e,r.mono h Y,sm h X⟩
variable{x:Operand}
def kI{α:Type}{r:Rp α}{S:SH}: ∀{xs:List α} {cs:List Value},rh r S cs xs->cs.length=xs.length*r.sz
 |[],_,k=>by rw [show _=_ from k];simp
 |x::xs,_,⟨a,b,e,Y,X⟩=>by rw [e,kj,r.len Y,kI X,iG,xo];omega
def yK{α:Type}{r:Rp α}{S:SH}: ∀{xs:List α} {cs:List Value},rh r S cs xs-> ∀c∈cs,c.oneCell' =true
 |[],_,k,c,hc=>by rw [show _=_ from k]at hc;cases hc
 |x::xs,_,⟨a,b,e,Y,X⟩,c,hc=>by
  rw [e]at hc
  rcases ui.1 hc with h|h
  ·exact r.one Y c h
  ·exact yK X c h
variable{ys:List α}
def rs{α:Type}{r:Rp α}{S:SH}: ∀{xs ys:List α} {cs ds:List Value},rh r S cs xs->rh r S ds ys->rh r S (cs++ds) (xs++ys)
 |[],_,_,_,k,h=>by rw [show _=_ from k];exact h
 |_::_,_,_,_,⟨a,b,e,Y,X⟩,h=>⟨a,_,by rw [e,hZ],Y,rs X h⟩
def qq{α:Type}{r:Rp α}{S:SH}: ∀{xs ys:List α} {cs:List Value},rh r S cs (xs++ys)->
  rh r S (cs.take (xs.length*r.sz)) xs/\rh r S (cs.drop (xs.length*r.sz)) ys
 |[],_,_,k=>by simp [rh];exact k
 |x::xs,ys,cs,⟨a,b,e,Y,X⟩=>by
  have hl:=r.len Y
  have ih:=qq X
  have e1:(x::xs).length*r.sz=a.length+xs.length*r.sz:=by rw [hl,iG,xo];omega
  rw [e,e1,List.take_length_add_append,List.drop_length_add_append]
  exact⟨⟨a,_,rfl,Y,ih.1⟩,ih.2⟩
def MB{r:Rp α}{x:α}:rh r S cs [x]↔r.rc S cs x:=by
 constructor
 ·rintro⟨a,b,rfl,h,H⟩
  rw [show b=[]from H,p6];exact h
 ·intro h;exact⟨cs,[],by simp,h,rfl⟩
variable{i:Nat}
def A1{r:Rp α}(h:rh r S cs xs){x:α}(V:xs[i]? =some x):
  r.rc S ((cs.drop (i*r.sz)).take r.sz) x:=by
 have hi:i<xs.length:=(sy.1 V).1
 have e:xs=xs.take i++(x::xs.drop (i+1)):=by
  have:=sy.1 V
  rw [<-this.2,<-B0 hi,sL]
 have hl:(xs.take i).length=i:=by simp;omega
 rw [e]at h
 have X:=(qq h).2
 rw [hl]at X
 obtain⟨a,b,e2,d,_⟩:=X
 rw [e2,<-r.len d,List.take_left]
 exact d

def GO{α:Type}(r:Rp α)(S:SH)(a:Option Addr)(xs:List α):Prop:=
 xs=[]\/ ∃b off c E fr,a=some ⟨b,off,none⟩/\S b=some (.cells c E fr)/\rh r S ((c.toList.drop off).take (xs.length*r.sz)) xs
def ga{α:Type}(r:Rp α):Rp (List α) where
 sz:=1
 agg:=false
 rc:=fun S cs xs=> ∃a cap,cs=[.slice a xs.length cap]/\xs.length<=cap/\cap<=maxLen/\GO r S a xs
 mono:=fun h ⟨a,cap,e,Y,X,d⟩=>⟨a,cap,e,Y,X,d.imp id fun⟨b,off,c,E,fr,e1,e2,e3⟩=>by
  obtain⟨o',h4,h5⟩:=h _ _ e2
  obtain⟨c',rfl,h6⟩:=EU h5 (kI e3)
  exact⟨b,off,c',E,fr,e1,h4,by rw [h6];exact sm h e3⟩⟩
 len:=fun⟨a,cap,e,_⟩=>by rw [e];rfl
 one:=fun⟨a,cap,e,_⟩ c hc=>by rw [e]at hc;simp at hc;subst hc;rfl
 sc:=fun _=>rfl
variable{cap:Nat}
def j6{r:Rp α}:(tD (ga r) xs).p S v↔ ∃a cap,v= .slice a xs.length cap/\xs.length<=cap/\cap<=maxLen/\GO r S a xs:=by
 constructor
 ·rintro⟨cs,rfl,a,cap,rfl,h⟩;exact⟨a,cap,rfl,h⟩
 ·rintro⟨a,cap,rfl,h⟩;exact⟨_,rfl,a,cap,rfl,h⟩
def Il{r:Rp α}:(tD (ga r) []).p S (.slice none 0 0):=j6.2 ⟨none,0,rfl,eo _,pL _,.inl rfl⟩

def dk{α:Type}(r:Rp α)(x:α):Ty where
 p:=fun S v=> ∃b off c E fr,v= .pointer (some ⟨b,off,none⟩)/\S b=some (.cells c E fr)/\r.rc S ((c.toList.drop off).take r.sz) x
 mono:=fun h ⟨b,off,c,E,fr,e1,e2,e3⟩=>by
  obtain⟨o',h4,h5⟩:=h _ _ e2
  obtain⟨c',rfl,h6⟩:=EU h5 (r.len e3)
  exact⟨b,off,c',E,fr,e1,h4,by rw [h6];exact r.mono h e3⟩

def aaS:List (Nat×List Value):=[]
def aaB(w:World):Prop:=True
structure mA(w:World)(S:SH):Prop where
 at_: ∀b o,S b=some o-> ∃o',w.heap[b]? =some o' /\Jy o o'
 gl: ∀p∈aaS,∃c T fr,S p.1=some (.cells c T fr)/\c.toList.take p.2.length=p.2
 tb: ∀w' :World,(∀b o,S b=some o-> ∃o',w'.heap[b]? =some o' /\Jy o o')->aaB w'
instance{w:World}{S:SH}:CoeFun (mA w S) (fun _=> ∀b o,S b=some o-> ∃o',w.heap[b]? =some o' /\Jy o o'):=⟨mA.at_⟩
variable{w:World}
def mA.lt(h:mA w S){b:Nat}{o:Obj}(k:S b=some o):b<w.heap.size:=let⟨_,Y,_⟩:=h b o k;(HS.1 Y).1
def mA.part(h:mA w S){b:Nat}{c:Array Value}{E:TypeId}(k:S b=some (.cells c E fr)){n:Nat}(hl:((c.toList.drop off).take n).length=n):
  ∃c',w.heap[b]? =some (.cells c' E fr)/\(c'.toList.drop off).take n=(c.toList.drop off).take n:=by
 obtain⟨o',Y,X⟩:=h b _ k
 obtain⟨c',rfl,d⟩:=EU X hl
 exact⟨c',Y,d⟩
variable{w' :World}
def mA.same(h:mA w S)(k: ∀b o,S b=some o->w'.heap[b]? =w.heap[b]?):mA w' S:=⟨fun b o e=>by rw [k b o e];exact h b o e,h.gl,h.tb⟩

def um:Nat->Prop:=fun _=>False
structure kw(B:Nat->Prop)(w:World)(S:SH)(w' :World)(S' :SH):Prop where
 os:w'.os=w.os
 tape:w'.tape=w.tape
 output:w'.output=w.output
 drawn:w.drawn<=w'.drawn
 size:w.heap.size<=w'.heap.size
 heap: ∀k,k<w.heap.size-> ¬B k->w'.heap[k]? =w.heap[k]?
 keep:SH.le S S'
 old: ∀k,k<w.heap.size-> ¬B k->S' k=S k
def js(B:Nat->Prop)(w:World)(S:SH):kw B w S w S:=⟨rfl,rfl,rfl,eo _,eo _,fun _ _ _=>rfl,SH.le_refl _,fun _ _ _=>rfl⟩
variable{w'' :World}
def kw.trans{B:Nat->Prop}(h:kw B w S w' S')(k:kw B w' S' w'' S''):kw B w S w'' S'' :=
 ⟨k.os.trans h.os,k.tape.trans h.tape,k.output.trans h.output,ze h.drawn k.drawn,ze h.size k.size,
  fun i hi H=>(k.heap i (xu hi h.size) H).trans (h.heap i hi H),SH.le_trans h.keep k.keep,
  fun i hi H=>(k.old i (xu hi h.size) H).trans (h.old i hi H)⟩
variable{C:Nat->Prop}
def kw.step{B:Nat->Prop}(h:kw B w S w' S')(k:kw C w' S' w'' S'')(hC: ∀b,C b->w.heap.size<=b\/B b):kw B w S w'' S'' :=
 ⟨k.os.trans h.os,k.tape.trans h.tape,k.output.trans h.output,ze h.drawn k.drawn,ze h.size k.size,
  fun i hi H=>(k.heap i (xu hi h.size) (fun hc=>(hC i hc).elim (fun h=>by omega) H)).trans (h.heap i hi H),SH.le_trans h.keep k.keep,
  fun i hi H=>(k.old i (xu hi h.size) (fun hc=>(hC i hc).elim (fun h=>by omega) H)).trans (h.old i hi H)⟩
def kw.more{B:Nat->Prop}(h:kw B w S w' S')(k: ∀b,B b->C b):kw C w S w' S' :=
 ⟨h.os,h.tape,h.output,h.drawn,h.size,fun i hi H=>h.heap i hi (fun h=>H (k i h)),h.keep,fun i hi H=>h.old i hi (fun h=>H (k i h))⟩
def kw.step0{B:Nat->Prop}(h:kw B w S w' S')(k:kw um w' S' w'' S''):kw B w S w'' S'' :=h.step k fun _ H=>H.elim

structure OE where
 fp:Nat->Prop
 p:World->SH->Prop
 here: ∀{w S},p w S-> ∀k,fp k->k<w.heap.size
 kept: ∀{C w w' S S'},p w S->kw C w S w' S' ->(∀k,fp k-> ¬C k)->p w' S'
def OE.holds(e:OE)(base:Nat)(B:Nat->Prop)(w:World)(S:SH):Prop:=e.p w S/\ ∀k,e.fp k->base<=k\/B k
def OE.apart(e f:OE):Prop:= ∀b,e.fp b-> ¬f.fp b
def eD(base:Nat)(B:Nat->Prop)(w:World)(S:SH):List OE->Prop
 |[]=>True
 |e::O=>e.holds base B w S/\(∀f∈O,e.apart f)/\eD base B w S O
def Jr{e:OE}{base:Nat}{B:Nat->Prop}(h:e.holds base B w S)(k:kw C w S w' S')(hC: ∀b,e.fp b-> ¬C b):e.holds base B w' S' :=⟨e.kept h.1 k hC,h.2⟩
variable{O:List OE}{f:FuncId}
def eD.ext{base:Nat}{B:Nat->Prop}(k:kw C w S w' S'): ∀{O:List OE},eD base B w S O->(∀e∈O,∀b,e.fp b-> ¬C b)->eD base B w' S' O
 |[],_,_=>trivial
 |e::_,⟨Y,X,d⟩,hC=>⟨Jr Y k (hC e (nM ..)),X,eD.ext k d fun f hf=>hC f (pK _ hf)⟩
def eD.ext0{base:Nat}{B:Nat->Prop}(k:kw um w S w' S')(h:eD base B w S O):eD base B w' S' O:=
 h.ext k fun _ _ _ _ H=>H
def eD.mem{base:Nat}{B:Nat->Prop}: ∀{O:List OE},eD base B w S O-> ∀e∈O,e.holds base B w S
 |_::_,⟨Y,_,_⟩,_,.head _=>Y
 |_::_,⟨_,_,d⟩,_,.tail _ hm=>eD.mem d _ hm

abbrev mg:=List (Nat×Ty)
def cw:mg->Nat->Option Ty
 |[],_=>none
 |(k,t)::G,j=>bif Nat.beq k j then some t else cw G j
structure Fr where
 n:Nat
 ds:List Deferred
structure bS(N:Fr)(S:SH)(a:Act)(G:mg):Prop where
 size:a.tmps.size=N.n
 defers:a.defers=N.ds
 at_: ∀k t,cw G k=some t->t.p S (a.tmps.getD k undef)
variable{G:mg}{j:Nat}{t:Ty}
def bS.mono{N:Fr}(h:bS N S a G)(k:SH.le S S'):bS N S' a G:=⟨h.size,h.defers,fun j t e=>t.mono k (h.at_ j t e)⟩
def bS.sub{N:Fr}{G' :mg}(h:bS N S a G)(k: ∀j t,cw G' j=some t->cw G j=some t):bS N S a G' :=⟨h.size,h.defers,fun j t e=>h.at_ j t (k j t e)⟩
variable{u:OE}
def bS.put{N:Fr}(h:bS N S a G)(hd:Nat.blt h3 N.n=true)(hv:t.p S v):bS N S (a.put (some h3) v) ((h3,t)::G):=by
 have hd' :h3<N.n:=by simpa [uW] using hd
 refine⟨by simp [Act.put,h.size],h.defers,fun j u e=>?_⟩
 unfold cw at e
 by_cases hj:h3=j
 ·subst hj
  have e' :t=u:=by simpa using e
  rw [e']at hv
  simp [Act.put,HT,h.size,hd',hv]
 ·have H:Nat.beq h3 j=false:=by cases hh:Nat.beq h3 j with
   |false=>rfl
   |true=>exact absurd (pG hh) hj
  rw [H]at e
  have:=h.at_ j u e
  simpa [Act.put,HT,Array.getElem?_setIfInBounds,hj] using this
def PS:mg->mg->Prop
 |[],_=>True
 |(k,t)::G',G=>cw G k=some t/\PS G' G
def GM: ∀{G' G:mg},PS G' G-> ∀j t,cw G' j=some t->cw G j=some t
 |(k,t)::G',G,⟨Y,X⟩,j,u,e=>by
  unfold cw at e
  by_cases H:Nat.beq k j=true
  ·rw [H]at e
   have:=pG H
   subst this
   simp only [cond_true]at e
   rw [<-e];exact Y
  ·rw [Ay]at H
   rw [H]at e
   exact GM X j u e

def aJ(N:Fr)(G:mg)(x:Operand)(t:Ty):Prop:= ∀S a,bS N S a G->t.p S (a.eval x)
def D{N:Fr}(h:cw G k=some t):aJ N G (.tmp k) t:=fun _ _ hF=>hF.at_ k t h
def hI{N:Fr}{k:IntKind}{n:Int}:aJ N G (.const (.int k n)) (tD (rI k) n):=fun _ _ _=>dI.2 rfl
def hB{N:Fr}:aJ N G (.const (.bool b)) (tD rB b):=fun _ _ _=>ju.2 rfl
def hS{N:Fr}{ae:Array UInt8}:aJ N G (.const (.string ⟨ae⟩)) (tD rS ae.toList):=fun _ _ _=>B4.2 rfl
def Vq{N:Fr}{r:Rp α}:aJ N G (.const (.slice none 0 0)) (tD (ga r) []):=fun _ _ _=>Il
def hV{N:Fr}:aJ N G (.const v) (Z v):=fun _ _ _=>rfl

section
variable{P:Program}
end

def fw(r:Option Nat):Fence:={fn:=fun _=>True,depth:=none,alive:=false,round:=r}
variable{args:α->List Ty}
def wO{r:Option Nat}{n:Nat}{P:Program}{args:Array Value}{R:Ending->World->Prop}:CallsIn (fw r) n P f args w R↔Calls P f args w R:=callsIn_wide
def K7{r:Option Nat}{n:Nat}:(fw r).depth.isSome=true->1<=n:=fun h=>by cases h
structure En where
 P:Program
 N:Fr
 B:Nat->Prop
 w0:World
 S0:SH
 r:Option Nat
def En.base(E:En):Nat:=E.w0.heap.size

def Yc(P:Program)(o:Oper)(a:Act)(hg:Act->World->Prop):Result Next->Prop
 | .ok (.value v) w' =>hg (a.put o.dst v) w'
 | .ok .skip w' =>hg (a.put o.dst undef) w'
 | .ok (.enter f args) w' =>Calls P f args w' fun e w'' => ∃v,e= .returned v/\hg (a.put o.dst v) w''
 | .ok (.round l f tmps assign body) w' =>RoundIn (fw none) 0 P l f tmps assign body w' fun e w'' => ∃v,e= .returned v/\hg (a.put o.dst v) w''
 |_=>False
def KC(P:Program)(o:Oper)(a:Act)(w:World)(hg:Act->World->Prop):Prop:=(∀c,o.op≠ .defer c)/\Yc P o a hg ((execOp a.eval o).run P w)
variable{l:Option Nat}
def Mx{r:Option Nat}{n:Nat}{P:Program}{l:Nat}{tmps:Array Value}{assign body:Code}{R:Ending->World->Prop}(h:RoundIn (fw none) 0 P l f tmps assign body w R):RoundIn (fw r) n P l f tmps assign body w R:=
 ⟨trivial,fun c cs _=>h.2 c cs (fun _ hd=>by cases hd)⟩
variable{hg K' :Act->World->Prop}
def SC{P:Program}(hK: ∀a w,hg a w->K' a w){r:Result Next}(h:Yc P o a hg r):Yc P o a K' r:=by
 cases r with
 |ok n w=>
  cases n<;>simp only [Yc]at h ⊢
  case value=>exact hK _ _ h
  case skip=>exact hK _ _ h
  case enter f args=>exact h.mono fun e w' ⟨v,he,hk⟩=>⟨v,he,hK _ _ hk⟩
  case round l f tmps assign body=>exact h.mono fun e w' ⟨v,he,hk⟩=>⟨v,he,hK _ _ hk⟩
 |halt x w=>simp only [Yc]at h
def ph{P:Program}(hK: ∀a w,hg a w->K' a w)(h:KC P o a w hg):KC P o a w K' :=⟨h.1,SC hK h.2⟩
variable{bx:Exit->Act->World->Prop}{β:Type}{res:β->Ty}
def lJ{P:Program}{r:Option Nat}(hK: ∀a w,hg a w->K' a w)(h:KC P o a w hg):o.wpIn (fw r) 0 P a w K' bx:=by
 obtain⟨hd,h⟩:=h
 refine⟨fun _ _=>trivial,?_⟩
 rw [Oper.semAt_eq _ _ _ hd]
 generalize (execOp a.eval o).run P w=res at h
 cases res with
 |ok n w=>
  cases n<;>simp only [Yc]at h<;>simp only [Oper.uponIn]
  case value=>exact hK _ _ h
  case skip=>exact hK _ _ h
  case enter f args=>exact⟨K7,wO.2 (h.mono fun e w' ⟨v,he,hk⟩=>by subst he;exact hK _ _ hk)⟩
  case round l f tmps assign body=>exact⟨K7,(Mx h).mono fun e w' ⟨v,he,hk⟩=>by subst he;exact hK _ _ hk⟩
 |halt x w=>simp only [Yc]at h

def cu(E:En)(O:List OE)(G:mg)(o:Oper)(t:Ty):Prop:=
 ∀a w S,mA w S->eD E.base E.B w S O->bS E.N S a G->
  KC E.P o a w (fun a' w' => ∃v S',a' =a.put o.dst v/\kw um w S w' S' /\mA w' S' /\t.p S' v)
structure St(E:En)(O:List OE)(G:mg)(a:Act)(w:World)(S:SH):Prop where
 ext:kw E.B E.w0 E.S0 w S
 sat:mA w S
 own:eD E.base E.B w S O
 facts:bS E.N S a G
def RG(E:En)(ops:Array Oper)(bx:Exit->Act->World->Prop)(l:List Oper)(O:List OE)(G:mg):Prop:= ∀a w S,St E O G a w S->wpListIn (fw E.r) 0 E.P ops bx l a w
def CG(E:En)(bx:Exit->Act->World->Prop)(c:Code)(O:List OE)(G:mg):Prop:= ∀a w S,St E O G a w S->c.wpIn (fw E.r) 0 E.P bx a w
def AT(E:En)(bx:Exit->Act->World->Prop)(e:Exit)(O:List OE)(G:mg):Prop:= ∀a w S,St E O G a w S->bx e a w

variable{after:Array Edge}{fn:Func}{ops:Array Oper}{pos:String}{ts:List Ty}{y:Operand}
section
variable{E:En}{G' :mg}{l:List Oper}
def St.step(h:St E O G a w S)(k:kw um w S w' S')(hs:mA w' S')(hd:Nat.blt h3 E.N.n=true)(hv:t.p S' v):
  St E O ((h3,t)::G) (a.put (some h3) v) w' S' :=
 ⟨h.ext.step0 k,hs,h.own.ext0 k,(h.facts.mono k.keep).put hd hv⟩
def St.sub(h:St E O G a w S)(k:PS G' G):St E O G' a w S:=⟨h.ext,h.sat,h.own,h.facts.sub (GM k)⟩
def RG.of(K:o.guard=none)(h: ∀a w S,St E O G a w S->KC E.P o a w (fun a' w' =>wpListIn (fw E.r) 0 E.P ops bx l a' w')):RG E ops bx (o::l) O G:=fun a w S st=>
 wpListIn_plain K fun _ hK=>lJ hK (h a w S st)

def uT{op:Op}{ty:TypeId}(h:cu E O G ⟨some h3,op,ty,pos,after,none⟩ t)(hd:Nat.blt h3 E.N.n=true)(k:RG E ops bx l O ((h3,t)::G)):
  RG E ops bx (⟨some h3,op,ty,pos,after,none⟩::l) O G:= .of rfl fun a w S st=>
 ph (fun a' w' ⟨_,_,ha,he,hs,hv⟩=>by subst ha;exact k _ _ _ (st.step he hs hd hv)) (h a w S st.sat st.own st.facts)
def aX(h:AT E bx .normal O G):RG E ops bx [] O G:=fun a w S st=>h a w S st
def ax{id:Nat}{l:List Oper}(h:RG E l.toArray bx l O G):CG E bx (.region id l.toArray false) O G:=fun a w S st=>wpIn_region_lit (h a w S st)
def aU{x y:Code}(h:CG E (Exit.then (y.wpIn (fw E.r) 0 E.P bx) bx) x O G):CG E bx (.seq x y) O G:=fun a w S st=>wpIn_seq (h a w S st)
def aG{y:Code}(h:CG E bx y O G):AT E (Exit.then (y.wpIn (fw E.r) 0 E.P bx) bx) .normal O G:=h
def bE(h:AT E bx .normal O G):CG E bx .skip O G:=fun a w S st=>wpIn_skip (h a w S st)
def dG{id:Nat}(h:AT E bx (.exit id) O G):CG E bx (.exit id) O G:=fun a w S st=>wpIn_exit (h a w S st)
def rN(h:AT E bx .ret O G):CG E bx .ret O G:=fun a w S st=>wpIn_ret (h a w S st)
def bZ{e:Exit}(h:AT E bx e O G')(k:PS G' G):AT E bx e O G:=fun a w S st=>h a w S (st.sub k)
def q9{c:Operand}{x y:Code}(H:aJ E.N G c (tD rB b))(V:b=true->CG E bx x O G)(hy:b=false->CG E bx y O G):CG E bx (.cond c x y) O G:=fun a w S st=>by
 have hv:a.eval c= .bool b:=ju.1 (H S a st.facts)
 refine wpIn_cond hv ?_
 cases b with
 |true=>exact V rfl a w S st
 |false=>exact hy rfl a w S st
def aA{id:Nat}(h:CG E (Exit.inBlock id bx) c O G):CG E bx (.block id c) O G:=fun a w S st=>wpIn_block (h a w S st)
def Aa(r:Option Nat)(P:Program)(c:Code)(bx:Exit->Act->World->Prop)(a:Act)(w:World):Prop:=
 ∀(b:Frame) (k:List Item) (cs:List Frame),b.roundOf=r-> ∃e a' w',bx e a' w' /\ArrivesIn (Machine.fenced P (fw r)) P (lone (b.atR a (.code c:: .inLoop c::k)) cs w) b k cs e a' w'
def OR{r:Option Nat}{n:Nat}:(fw r).room n:=fun _ hd=>by cases hd
def HY{r:Option Nat}{P:Program}{bx:Exit->Act->World->Prop}(h:Aa r P c bx a w):(Code.loop c).wpIn (fw r) 0 P bx a w:=fun b k cs hro H hr=>
 let⟨e,a',w',hq,harr⟩:=h b k cs hro
 ⟨e,a',w',hq,.of_steps (.one (fenced_calm H hr rfl) stepR_loop) harr⟩
def Ge{r:Option Nat}{P:Program}{bx:Exit->Act->World->Prop}(h:c.wpIn (fw r) 0 P (Exit.then (Aa r P c bx) bx) a w):Aa r P c bx a w:=by
 intro b k cs hro
 obtain⟨e,a₁,w₁,hq,harr⟩:=h b (.inLoop c::k) cs hro trivial OR
 cases e with
 |normal=>
  obtain⟨e₂,a₂,w₂,hq₂,harr₂⟩:=hq b k cs hro
  exact⟨e₂,a₂,w₂,hq₂,.of_steps (StepsIn.trans harr (.one (fenced_calm (n:=0) (F:=fw r) trivial OR rfl) stepR_inLoop)) harr₂⟩
 |exit id=>exact⟨_,a₁,w₁,hq,.pass (x:= .inLoop c) rfl (fun _ _=> .inl (by simp)) harr⟩
 |goto l=>exact⟨_,a₁,w₁,hq,.pass (x:= .inLoop c) rfl (fun _ _=> .inl (by simp)) harr⟩
 |ret=>exact⟨_,a₁,w₁,hq,.pass (x:= .inLoop c) rfl (fun _ _=> .inl (by simp)) harr⟩
 |panic ch=>exact⟨_,a₁,w₁,hq,.pass (x:= .inLoop c) rfl (fun _ _=> .inl (by simp)) harr⟩
 |outgrown=>exact⟨_,a₁,w₁,hq,.pass (x:= .inLoop c) rfl (fun _ _=> .inl (by simp)) harr⟩
def LG(E:En)(bx:Exit->Act->World->Prop)(c:Code)(O:List OE)(G:mg):Prop:= ∀a w S,St E O G a w S->Aa E.r E.P c bx a w
def bN(h:LG E bx c O G):CG E bx (.loop c) O G:=fun a w S st=>HY (h a w S st)
def eE(h:CG E (Exit.then (Aa E.r E.P c bx) bx) c O G):LG E bx c O G:=fun a w S st=>Ge (h a w S st)
def aV(h:LG E bx c O G')(k:PS G' G):LG E bx c O G:=fun a w S st=>h a w S (st.sub k)
def bj(h:LG E bx c O G):AT E (Exit.then (Aa E.r E.P c bx) bx) .normal O G:=h
def aq{id:Nat}(h:AT E bx (.exit id) O G):AT E (Exit.then hg bx) (.exit id) O G:=h
def au(h:AT E bx .ret O G):AT E (Exit.then hg bx) .ret O G:=h
def CE{id:Nat}(h:AT E bx .ret O G):AT E (Exit.inBlock id bx) .ret O G:=h
def aF{id:Nat}(h:AT E bx .normal O G):AT E (Exit.inBlock id bx) .normal O G:=h
def bW{id:Nat}(h:AT E bx .normal O G):AT E (Exit.inBlock id bx) (.exit id) O G:=fun a w S st=>by
 simp only [Exit.inBlock,jR];exact h a w S st
def bO{id id' :Nat}(hne:Nat.beq id' id=false)(h:AT E bx (.exit id') O G):AT E (Exit.inBlock id bx) (.exit id') O G:=fun a w S st=>by
 have:id' ≠id:=fun e=>by subst e;simp at hne
 simp only [Exit.inBlock,this,lI];exact h a w S st

def xn(S:SH):List Ty->List Value->Prop
 |[],[]=>True
 |t::ts,v::vs=>t.p S v/\xn S ts vs
 |_,_=>False
def xn.mono(h:SH.le S S'): ∀{ts:List Ty} {vs:List Value},xn S ts vs->xn S' ts vs
 |[],[],_=>trivial
 |t::_,_::_,⟨Y,X⟩=>⟨t.mono h Y,xn.mono h X⟩
def xn.length: ∀{ts:List Ty} {vs:List Value},xn S ts vs->vs.length=ts.length
 |[],[],_=>rfl
 |_::_,_::_,⟨_,X⟩=>by simp [xn.length X]
def dR(P:Program)(f:FuncId)(ts:List Ty)(t:Ty):Prop:=
 ∀w S vs,mA w S->xn S ts vs->Calls P f vs.toArray w fun e w' => ∃v S',e= .returned v/\kw um w S w' S' /\mA w' S' /\t.p S' v
def Lr(E:En)(t:Ty):Ending->World->Prop:=fun e w' => ∃v S',e= .returned v/\kw E.B E.w0 E.S0 w' S' /\mA w' S' /\t.p S' v
def zw(k:Nat):List Ty->mg
 |[]=>[]
 |t::ts=>(k,t)::zw (k+1) ts
def E1: ∀(ts:List Ty) (k j:Nat) (t:Ty),cw (zw k ts) j=some t-> ∃i,j=k+i/\ts[i]? =some t
 |[],_,_,_,h=>by simp [zw,cw]at h
 |u::ts,k,j,t,h=>by
  unfold zw cw at h
  by_cases H:Nat.beq k j=true
  ·rw [H]at h
   exact⟨0,by rw [pG H];rfl,by simpa using h⟩
  ·rw [Ay]at H
   rw [H]at h
   obtain⟨i,Y,X⟩:=E1 ts (k+1) j t h
   exact⟨i+1,by omega,by simpa using X⟩
def xn.at_: ∀{ts:List Ty} {vs:List Value} (_:xn S ts vs) (i:Nat) (t:Ty),ts[i]? =some t-> ∃v,vs[i]? =some v/\t.p S v
 |_::_,v::_,⟨Y,_⟩,0,t,h=>⟨v,rfl,by simp at h;rw [<-h];exact Y⟩
 |_::ts,_::vs,⟨_,X⟩,i+1,t,h=>by simpa using xn.at_ X i t (by simpa using h)
def Al{vs:List Value}(h:xn S ts vs)(n:Nat)(hn:ts.length<=n):
  bS ⟨n,[]⟩ S {tmps:=vs.toArray++Array.replicate (n-vs.toArray.size) undef,defers:=[]} (zw 0 ts):=by
 have hl:=h.length
 refine⟨by simp;omega,rfl,fun j t hj=>?_⟩
 obtain⟨i,e,hi⟩:=E1 ts 0 j t hj
 have e' :j=i:=by omega
 subst e'
 obtain⟨v,hv,D⟩:=h.at_ j t hi
 have hlt:j<vs.length:=(sy.1 hv).1
 have:(vs.toArray++Array.replicate (n-vs.toArray.size) undef).getD j undef=v:=by
  rw [HT,Array.getElem?_append_left (by simpa using hlt)]
  simp [hv]
 rw [this];exact D
def Jl{P:Program}(hf:P.funcs[f]? =some fn)(H:fn.body=some c)(hn:ts.length<=fn.ntmps)(h: ∀w0 S0,CG ⟨P,⟨fn.ntmps,[]⟩,um,w0,S0,none⟩ (bodyPost P fn (Lr ⟨P,⟨fn.ntmps,[]⟩,um,w0,S0,none⟩ t)) c [] (zw 0 ts)):dR P f ts t:=by
 intro w S vs hs hv
 exact wO.1 (callsIn_of_wp (F:=fw none) (n:=0) hf H trivial (h w S _ w S ⟨js _ _ _,hs,trivial,Al hv _ hn⟩))
def sC(P:Program)(fn:Func)(k:Nat)(h:fn.results= #[.tmp k])(tmps:Array Value)(w:World):(results fn tmps).run P w= .ok (tmps.getD k undef) w:=by
 simp [results,h]
def aN{P:Program}{N:Nat}{B:Nat->Prop}{w0:World}{S0:SH}(hr:fn.results= #[.tmp k])(hk:cw G k=some t):
  AT ⟨P,⟨N,[]⟩,B,w0,S0,none⟩ (bodyPost P fn (Lr ⟨P,⟨N,[]⟩,B,w0,S0,none⟩ t)) .ret O G:=fun _ _ S st=>
 ⟨st.facts.defers,_,sC P fn k hr _ _,_,S,rfl,st.ext,st.sat,st.facts.at_ k t hk⟩
def tT(ts:List Ty):Ty where
 p:=fun S v=> ∃vs,v= .tuple vs.toArray/\xn S ts vs
 mono:=fun h k=>by obtain⟨vs,e,k⟩:=k;exact⟨vs,e,xn.mono h k⟩
def Dn(P:Program)(fn:Func)(j k:Nat)(h:fn.results= #[.tmp j,.tmp k])(tmps:Array Value)(w:World):(results fn tmps).run P w= .ok (.tuple #[tmps.getD j undef,tmps.getD k undef]) w:=by
 simp [results,h]
def fK{P:Program}{N:Nat}{B:Nat->Prop}{w0:World}{S0:SH}{u:Ty}(hr:fn.results= #[.tmp j,.tmp k])(hj:cw G j=some t)(hk:cw G k=some u):
  AT ⟨P,⟨N,[]⟩,B,w0,S0,none⟩ (bodyPost P fn (Lr ⟨P,⟨N,[]⟩,B,w0,S0,none⟩ (tT [t,u]))) .ret O G:=fun _ _ S st=>
 ⟨st.facts.defers,_,Dn P fn j k hr _ _,_,S,rfl,st.ext,st.sat,[_,_],rfl,st.facts.at_ j t hj,st.facts.at_ k u hk,trivial⟩
def AR(P:Program)(fn:Func)(i j k:Nat)(h:fn.results= #[.tmp i,.tmp j,.tmp k])(tmps:Array Value)(w:World):(results fn tmps).run P w= .ok (.tuple #[tmps.getD i undef,tmps.getD j undef,tmps.getD k undef]) w:=by
 simp [results,h]
def wV{P:Program}{N:Nat}{B:Nat->Prop}{w0:World}{S0:SH}{ae u:Ty}(hr:fn.results= #[.tmp i,.tmp j,.tmp k])(hi:cw G i=some ae)(hj:cw G j=some t)(hk:cw G k=some u):
  AT ⟨P,⟨N,[]⟩,B,w0,S0,none⟩ (bodyPost P fn (Lr ⟨P,⟨N,[]⟩,B,w0,S0,none⟩ (tT [ae,t,u]))) .ret O G:=fun _ _ S st=>
 ⟨st.facts.defers,_,AR P fn i j k hr _ _,_,S,rfl,st.ext,st.sat,[_,_,_],rfl,st.facts.at_ i ae hi,st.facts.at_ j t hj,st.facts.at_ k u hk,trivial⟩
def vr(P:Program)(fn:Func)(h:fn.results= #[])(tmps:Array Value)(w:World):(results fn tmps).run P w= .ok (.tuple #[]) w:=by
 simp [results,h]
end

variable{dst:Option Tmp}{g:Option (Nat×Bool)}{k' :IntKind}{m:Int}{xt yt:TypeId}
section
variable{E:En}{ty:TypeId}
def cu.of_run(h: ∀a w S,mA w S->eD E.base E.B w S O->bS E.N S a G->
  ∃v w' S',(execOp a.eval o).run E.P w= .ok (.value v) w' /\kw um w S w' S' /\mA w' S' /\t.p S' v)(hd: ∀c,o.op≠ .defer c:=by intro c h;cases h):cu E O G o t:=fun a w S hs ho hf=>by
 obtain⟨v,w',S',hr,he,hs',hv⟩:=h a w S hs ho hf
 refine⟨hd,?_⟩
 rw [hr]
 exact⟨v,S',rfl,he,hs',hv⟩
def cu.of_pure(h: ∀a w S,mA w S->eD E.base E.B w S O->bS E.N S a G-> ∃v,(execOp a.eval o).run E.P w= .ok (.value v) w/\t.p S v)(hd: ∀c,o.op≠ .defer c:=by intro c h;cases h):cu E O G o t:=
 .of_run (fun a w S hs ho hf=>let⟨v,hr,hv⟩:=h a w S hs ho hf;⟨v,w,S,hr,js _ _ _,hs,hv⟩) hd

def bR(V:aJ E.N G x t):cu E O G ⟨dst,.move x,ty,pos,after,g⟩ t:=
 .of_pure fun a _ S _ _ hf=>⟨a.eval x,rfl,V S a hf⟩
def cg(V:aJ E.N G x t):cu E O G ⟨dst,.assign x,ty,pos,after,g⟩ t:=
 .of_pure fun a _ S _ _ hf=>⟨a.eval x,rfl,V S a hf⟩
def yP{c:Operand}(hc:aJ E.N G c (tD rB b))(V:b=true->aJ E.N G x t)(hy:b=false->aJ E.N G y t):cu E O G ⟨dst,.pick c x y,ty,pos,after,g⟩ t:=
 .of_pure fun a _ S _ _ hf=>by
  have Y:a.eval c= .bool b:=ju.1 (hc S a hf)
  refine⟨if b then a.eval x else a.eval y,by simp [execOp,Y,asBool],?_⟩
  cases b with
  |true=>exact V rfl S a hf
  |false=>exact hy rfl S a hf

section
variable{k:IntKind}{n:Int}
def C2{P:Program}{op:BinOp}{xt:TypeId}{x y:Operand}{k:IntKind}{m n:Int}:(eqGuard op xt x y (.int k m) (.int k' n)).run P w= .ok () w:=by
 unfold eqGuard
 cases op<;>rfl
def ry{op:BinOp}(V:aJ E.N G x (tD (rI k) m))(hy:aJ E.N G y (tD (rI k) n))(hv: ∀P w,(binOp op xt (.int k m) (.int k n)).run P w= .ok v w)(D: ∀S,t.p S v):
  cu E O G ⟨dst,.binOp op xt x y yt,ty,pos,after,g⟩ t:=
 .of_pure fun a w S _ _ hf=>by
  have Y:a.eval x= .int k m:=dI.1 (V S a hf)
  have X:a.eval y= .int k n:=dI.1 (hy S a hf)
  refine⟨v,?_,D S⟩
  simp [execOp,Y,X,C2,hv]
def fY(V:aJ E.N G x (tD (rI k) m))(hy:aJ E.N G y (tD (rI k) n)):cu E O G ⟨dst,.binOp .add xt x y yt,ty,pos,after,g⟩ (tD (rI k) (k.wrap (m+n))):=
 ry V hy (fun _ _=>by simp [binOp,Op.intArith]) (fun _=>dI.2 rfl)
def iF(V:aJ E.N G x (tD (rI k) m))(hy:aJ E.N G y (tD (rI k) n)):cu E O G ⟨dst,.binOp .sub xt x y yt,ty,pos,after,g⟩ (tD (rI k) (k.wrap (m-n))):=
 ry V hy (fun _ _=>by simp [binOp,Op.intArith]) (fun _=>dI.2 rfl)
def EW(V:aJ E.N G x (tD (rI k) m))(hy:aJ E.N G y (tD (rI k) n)):cu E O G ⟨dst,.binOp .mul xt x y yt,ty,pos,after,g⟩ (tD (rI k) (k.wrap (m*n))):=
 ry V hy (fun _ _=>by simp [binOp,Op.intArith]) (fun _=>dI.2 rfl)
def SI(V:aJ E.N G x (tD (rI k) m))(hy:aJ E.N G y (tD (rI k) n))(h0:n≠0):cu E O G ⟨dst,.binOp .quo xt x y yt,ty,pos,after,g⟩ (tD (rI k) (k.wrap (m.tdiv n))):=
 ry V hy (fun _ _=>by simp [binOp,Op.intDiv,h0]) (fun _=>dI.2 rfl)
def SG(V:aJ E.N G x (tD (rI k) m))(hy:aJ E.N G y (tD (rI k) n))(h0:n≠0):cu E O G ⟨dst,.binOp .rem xt x y yt,ty,pos,after,g⟩ (tD (rI k) (m.tmod n)):=
 ry V hy (fun _ _=>by simp [binOp,Op.intDiv,h0]) (fun _=>dI.2 rfl)
def jd(V:aJ E.N G x (tD (rI k) m))(hy:aJ E.N G y (tD (rI k) n)):cu E O G ⟨dst,.binOp .lss xt x y yt,ty,pos,after,g⟩ (tD rB (decide (m<n))):=
 ry V hy (fun _ _=>by simp [binOp,Op.intCmp]) (fun _=>ju.2 rfl)
def hX(V:aJ E.N G x (tD (rI k) m))(hy:aJ E.N G y (tD (rI k) n)):cu E O G ⟨dst,.binOp .leq xt x y yt,ty,pos,after,g⟩ (tD rB (decide (m<=n))):=
 ry V hy (fun _ _=>by simp [binOp,Op.intCmp]) (fun _=>ju.2 rfl)
def gm(V:aJ E.N G x (tD (rI k) m))(hy:aJ E.N G y (tD (rI k) n)):cu E O G ⟨dst,.binOp .gtr xt x y yt,ty,pos,after,g⟩ (tD rB (decide (n<m))):=
 ry V hy (fun _ _=>by simp [binOp,Op.intCmp]) (fun _=>ju.2 rfl)
def iN(V:aJ E.N G x (tD (rI k) m))(hy:aJ E.N G y (tD (rI k) n)):cu E O G ⟨dst,.binOp .geq xt x y yt,ty,pos,after,g⟩ (tD rB (decide (n<=m))):=
 ry V hy (fun _ _=>by simp [binOp,Op.intCmp]) (fun _=>ju.2 rfl)
def eh(V:aJ E.N G x (tD (rI k) m))(hy:aJ E.N G y (tD (rI k) n)):cu E O G ⟨dst,.binOp .eql xt x y yt,ty,pos,after,g⟩ (tD rB (m==n)):=
 ry V hy (fun _ _=>by simp [binOp,Op.intCmp]) (fun _=>ju.2 rfl)
def kJ(V:aJ E.N G x (tD (rI k) m))(hy:aJ E.N G y (tD (rI k) n)):cu E O G ⟨dst,.binOp .neq xt x y yt,ty,pos,after,g⟩ (tD rB (m !=n)):=
 ry V hy (fun _ _=>by simp [binOp,Op.intCmp]) (fun _=>ju.2 rfl)
def oV(op:BinOp)(k:IntKind)(x y:Int):Int:=
 k.wrap (match op with
  | .and=>(BitVec.ofInt k.bits x&&&BitVec.ofInt k.bits y).toNat
  | .or=>(BitVec.ofInt k.bits x|||BitVec.ofInt k.bits y).toNat
  | .xor=>(BitVec.ofInt k.bits x^^^BitVec.ofInt k.bits y).toNat
  |_=>(BitVec.ofInt k.bits x&&& ~~~BitVec.ofInt k.bits y).toNat:Nat)
def Yk(V:aJ E.N G x (tD (rI k) m))(hy:aJ E.N G y (tD (rI k) n)):cu E O G ⟨dst,.binOp .and xt x y yt,ty,pos,after,g⟩ (tD (rI k) (oV .and k m n)):=
 ry V hy (fun _ _=>by simp [binOp,Op.intBits];rfl) (fun _=>dI.2 rfl)
def EV(V:aJ E.N G x (tD (rI k) m))(hy:aJ E.N G y (tD (rI k) n)):cu E O G ⟨dst,.binOp .xor xt x y yt,ty,pos,after,g⟩ (tD (rI k) (oV .xor k m n)):=
 ry V hy (fun _ _=>by simp [binOp,Op.intBits];rfl) (fun _=>dI.2 rfl)
def KG{op:BinOp}(V:aJ E.N G x (tD (rI k) m))(hy:aJ E.N G y (tD (rI k') n))(hv: ∀P w,(binOp op xt (.int k m) (.int k' n)).run P w= .ok v w)(D: ∀S,t.p S v):
  cu E O G ⟨dst,.binOp op xt x y yt,ty,pos,after,g⟩ t:=
 .of_pure fun a w S _ _ hf=>by
  have Y:a.eval x= .int k m:=dI.1 (V S a hf)
  have X:a.eval y= .int k' n:=dI.1 (hy S a hf)
  refine⟨v,?_,D S⟩
  simp [execOp,Y,X,C2,hv]
def Yf(V:aJ E.N G x (tD (rI k) m))(hy:aJ E.N G y (tD (rI k') n))(h0:0<=n):cu E O G ⟨dst,.binOp .shl xt x y yt,ty,pos,after,g⟩ (tD (rI k) (k.wrap (m*2^(min n.toNat k.bits)))):=
 KG V hy (fun _ _=>by simp [binOp,Op.shift,Int.not_lt.2 h0]) (fun _=>dI.2 rfl)
def Cg(V:aJ E.N G x (tD (rI k) m))(hy:aJ E.N G y (tD (rI k') n))(h0:0<=n):cu E O G ⟨dst,.binOp .shr xt x y yt,ty,pos,after,g⟩ (tD (rI k) (m.fdiv (2^(min n.toNat k.bits)))):=
 KG V hy (fun _ _=>by simp [binOp,Op.shift,Int.not_lt.2 h0]) (fun _=>dI.2 rfl)
def Yj(V:aJ E.N G x (tD (rI k) m)):cu E O G ⟨dst,.unOp .xor xt x,ty,pos,after,g⟩ (tD (rI k) (oV .xor k (if k.signed then -1 else k.max) m)):=
 .of_pure fun a w S _ _ hf=>by
  have Y:a.eval x= .int k m:=dI.1 (V S a hf)
  exact⟨_,by simp [execOp,Y,Op.unary,Op.intBits];rfl,dI.2 rfl⟩
def gO(V:aJ E.N G x (tD rB b)):cu E O G ⟨dst,.unOp .not xt x,ty,pos,after,g⟩ (tD rB (!b)):=
 .of_pure fun a w S _ _ hf=>by
  have Y:a.eval x= .bool b:=ju.1 (V S a hf)
  exact⟨.bool (!b),by simp [execOp,Y,Op.unary],ju.2 rfl⟩
def fH{st dt:TypeId}{h3:TypeDesc}(hs:E.P.underlying st=some h3)(hd:E.P.underlying dt=some (.int k'))(V:aJ E.N G x (tD (rI k) m)):
  cu E O G ⟨dst,.convert st dt x,ty,pos,after,g⟩ (tD (rI k') (k'.wrap m)):=
 .of_pure fun a w S _ _ hf=>by
  have Y:a.eval x= .int k m:=dI.1 (V S a hf)
  refine⟨.int k' (k'.wrap m),?_,dI.2 rfl⟩
  simp only [execOp,Y,convert,uh,jt hs,jt hd,vl]
  cases h3<;>simp [Conv.intToInt]
end

def Cb{P:Program}{t:TypeId}(D:P.underlying t=some .bool)(h3:Nat)(b c:Bool)(w:World):(Op.equalIn (h3+1) t (.bool b) (.bool c)).run P w= .ok (b==c) w:=by
 simp [Op.equalIn,jt D]
def AS{P:Program}{t:TypeId}{x y:Value}(H: ∀h3,(Op.equalIn (h3+1) t x y).run P w= .ok b w):(Op.equal t x y).run P w= .ok b w:=H 9999
section
def IH{c:Bool}(D:E.P.underlying xt=some .bool)(V:aJ E.N G x (tD rB b))(hy:aJ E.N G y (tD rB c)):cu E O G ⟨dst,.binOp .eql xt x y yt,ty,pos,after,g⟩ (tD rB (b==c)):=
 .of_pure fun a w S _ _ hf=>by
  have Y:a.eval x= .bool b:=ju.1 (V S a hf)
  have X:a.eval y= .bool c:=ju.1 (hy S a hf)
  exact⟨.bool (b==c),by simp [execOp,Y,X,eqGuard,binOp,AS (fun h3=>Cb D h3 b c w)],ju.2 rfl⟩
def Ye{op:BinOp}{u:Po}(V:aJ E.N G x (tD rS ae))(hy:aJ E.N G y (tD rS u))(hv: ∀P w,(Op.stringOp op ⟨ae.toArray⟩ ⟨u.toArray⟩).run P w= .ok (.bool b) w)(K: ∀P w,(eqGuard op xt x y (.string ⟨ae.toArray⟩) (.string ⟨u.toArray⟩)).run P w= .ok () w)(H: ∀P w,(binOp op xt (.string ⟨ae.toArray⟩) (.string ⟨u.toArray⟩)).run P w=(Op.stringOp op ⟨ae.toArray⟩ ⟨u.toArray⟩).run P w):
  cu E O G ⟨dst,.binOp op xt x y yt,ty,pos,after,g⟩ (tD rB b):=
 .of_pure fun a w S _ _ hf=>by
  have Y:a.eval x= .string ⟨ae.toArray⟩:=B4.1 (V S a hf)
  have X:a.eval y= .string ⟨u.toArray⟩:=B4.1 (hy S a hf)
  refine⟨.bool b,?_,ju.2 rfl⟩
  simp [execOp,Y,X,K,H,hv]
def Vd{u:Po}(V:aJ E.N G x (tD rS ae))(hy:aJ E.N G y (tD rS u)):cu E O G ⟨dst,.binOp .eql xt x y yt,ty,pos,after,g⟩ (tD rB (ae==u)):=
 Ye V hy (fun _ _=>by simp [Op.stringOp]) (fun _ _=>rfl) (fun _ _=>rfl)
end
end

def S7:TypeDesc->Bool
 | .struct _| .array _ _=>true
 |_=>false
structure TI(P:Program)(T:TypeId)(sz bytes:Nat)(agg:Bool)(z:List Value):Prop where
 info:(P.info? T).map (fun i=>(i.zero.map (·.cells.toList),i.size,i.bytes))=some (some z,sz,bytes)
 ag:(P.underlying T).map S7=some agg
variable{T:TypeId}{bytes:Nat}{z:List Value}
section
variable{P:Program}{sz:Nat}{agg:Bool}
def TI.get(h:TI P T sz bytes agg z): ∃i zv,P.info? T=some i/\i.size=sz/\i.bytes=bytes/\i.zero=some zv/\zv.cells=z.toArray:=by
 have:=h.info
 cases hi:P.info? T with
 |none=>rw [hi]at this;simp at this
 |some i=>
  rw [hi]at this
  simp only [pM,Option.some.injEq,Prod.mk.injEq,FV]at this
  obtain⟨⟨zv,Y,X⟩,d,h4⟩:=this
  exact⟨i,zv,rfl,d,h4,Y,by rw [<-X]⟩
def TI.sizeOf(h:TI P T sz bytes agg z)(w:World):(Go.sizeOf T).run P w= .ok sz w:=by
 obtain⟨i,zv,Y,X,_⟩:=h.get
 simp [Go.sizeOf,typeInfo,Y,X]
def TI.isAgg(h:TI P T sz bytes agg z)(w:World):(Go.isAgg T).run P w= .ok agg w:=by
 have:=h.ag
 cases hi:P.underlying T with
 |none=>rw [hi]at this;simp at this
 |some h3=>
  rw [hi]at this
  simp only [pM,Option.some.injEq]at this
  simp only [Go.isAgg,uh,jt hi,vl]
  rw [<-this]
  cases h3<;>simp [S7]
def TI.zero(h:TI P T sz bytes agg z)(w:World): ∃zv,(zeroValue T).run P w= .ok zv w/\zv.cells=z.toArray:=by
 obtain⟨i,zv,Y,_,_,h4,h5⟩:=h.get
 exact⟨zv,by simp [zeroValue,typeInfo,Y,h4],h5⟩
end

def jq(b off i:Nat):(⟨b,off,none⟩:Addr).add i=⟨b,off+i,none⟩:=by
 unfold Addr.add
 split
 ·simp_all
 ·rfl
def wN{b:Nat}{c:Array Value}(h:w.heap[b]? =some (.cells c T fr))(i:Nat):w.cell? ⟨b,i,none⟩=c[i]? :=by
 simp [World.cell?,h]
def vt{P:Program}{b n:Nat}{c:Array Value}(h:w.heap[b]? =some (.cells c T fr))(hcs:(c.toList.drop off).take n=cs)(hl:cs.length=n):
  (loadCells ⟨b,off,none⟩ n).run P w= .ok cs.toArray w:=by
 rw [<-hl]
 refine run_loadCells_list w ⟨b,off,none⟩ cs fun j v hv=>?_
 rw [jq,wN h]
 have hj:j<cs.length:=(sy.1 hv).1
 rw [<-hcs,y9 (by omega),vX]at hv
 simpa using hv
variable{U:TypeId}{rest:List Oper}
def lh{P:Program}{b:Nat}{c:Array Value}{sz:Nat}{agg:Bool}(ti:TI P U sz bytes agg z)(h:w.heap[b]? =some (.cells c T fr)){r:Rp α}(hsz:r.sz=sz)(hag:r.agg=agg){x:α}(V:r.rc S ((c.toList.drop off).take r.sz) x):
  (loadVar U ⟨b,off,none⟩).run P w= .ok (r.val ((c.toList.drop off).take r.sz)) w:=by
 have hl:=r.len V
 subst hsz
 subst hag
 simp only [loadVar,uh,ti.isAgg,vl]
 cases ha:r.agg with
 |true=>simp [ti.sizeOf,vt h rfl hl,Rp.val,ha]
 |false=>
  have Y:=r.sc ha
  have hcell:w.cell? ⟨b,off,none⟩=some (((c.toList.drop off).take r.sz).headD undef):=by
   rw [wN h]
   rw [Y]at hl ⊢
   cases hd:c.toList.drop off with
   |nil=>rw [hd]at hl;simp at hl
   |cons v rest=>
    have:(c.toList.drop off)[0]? =some v:=by rw [hd];rfl
    rw [vX]at this
    simpa using this
  simp [hcell,Rp.val,ha]

variable{ats:Array TypeId}{q:Rp β}
section
variable{E:En}{ty:TypeId}
def kK{r:Rp α}{x:α}{p:Operand}{sz:Nat}{agg:Bool}(ti:TI E.P U sz bytes agg z)(hsz:r.sz=sz)(hag:r.agg=agg)(hp:aJ E.N G p (dk r x)):
  cu E O G ⟨dst,.load U p,ty,pos,after,g⟩ (tD r x):=
 .of_pure fun a w S hs _ hf=>by
  obtain⟨b,off,c,T,fr,Y,X,d⟩:=hp S a hf
  obtain⟨c',h4,h5⟩:=hs.part X (r.len d)
  rw [<-h5]at d
  refine⟨r.val ((c'.toList.drop off).take r.sz),?_,_,rfl,d⟩
  simp [execOp,Y,Instr.loadAt,Instr.sureAddr,lh ti h4 hsz hag d]

def Wx(ae:Po):(ByteArray.mk ae.toArray).size=ae.length:=by simp [ByteArray.size]
def mO{r:Rp α}{t:TypeId}(D:E.P.underlying t=some (.slice e))(V:aJ E.N G x (tD (ga r) xs)):
  cu E O G ⟨dst,.call ⟨.builtin .len,#[x],#[t]⟩,ty,pos,after,g⟩ (tD (rI .i64) (xs.length:Int)):=
 .of_pure fun a w S _ _ hf=>by
  obtain⟨ad,cap,Y,_⟩:=j6.1 (V S a hf)
  refine⟨.int .i64 xs.length,?_,dI.2 rfl⟩
  simp [execOp,resolve,invoke,builtin,Builtin.len_,jt D,Y,goInt]
def DC{t:TypeId}(D:E.P.underlying t=some .string)(V:aJ E.N G x (tD rS ae)):
  cu E O G ⟨dst,.call ⟨.builtin .len,#[x],#[t]⟩,ty,pos,after,g⟩ (tD (rI .i64) (ae.length:Int)):=
 .of_pure fun a w S _ _ hf=>by
  have Y:a.eval x= .string ⟨ae.toArray⟩:=B4.1 (V S a hf)
  refine⟨.int .i64 ae.length,?_,dI.2 rfl⟩
  simp [execOp,resolve,invoke,builtin,Builtin.len_,jt D,Y,goInt,Wx]

def gV{α:Type}(xs:List α)(i:Int):Option α:=if 0<=i then xs[i.toNat]? else none
def eU(xs:List α)(i:Nat):gV xs (i:Int)=xs[i]? :=by simp [gV]
def PW{r:Rp α}{a:Option Addr}(h:GO r S a xs){x:α}(V:xs[i]? =some x):
  ∃b off c T fr,a=some ⟨b,off,none⟩/\S b=some (.cells c T fr)/\r.rc S ((c.toList.drop (off+i*r.sz)).take r.sz) x:=by
 rcases h with rfl|⟨b,off,c,T,fr,e1,e2,e3⟩
 ·simp at V
 ·refine⟨b,off,c,T,fr,e1,e2,?_⟩
  have h:=A1 e3 V
  have hi:i<xs.length:=(sy.1 V).1
  rw [zf,Ax,sJ]at h
  have:min r.sz (xs.length*r.sz-i*r.sz)=r.sz:=by
   rw [<-Nat.sub_mul]
   have:1*r.sz<=(xs.length-i)*r.sz:=AC _ (by omega)
   omega
  rw [this]at h
  exact h
def wk{r:Rp α}{y:α}{ix:Operand}{t:TypeId}{k:IntKind}{i:Int}{sz:Nat}{agg:Bool}(D:E.P.underlying t=some (.slice e))(ti:TI E.P e sz bytes agg z)(hsz:r.sz=sz)(V:aJ E.N G x (tD (ga r) xs))(hi:aJ E.N G ix (tD (rI k) i))(hy:gV xs i=some y):
  cu E O G ⟨dst,.indexAddr t x ix,ty,pos,after,g⟩ (dk r y):=
 .of_pure fun a w S _ _ hf=>by
  obtain⟨ad,cap,Y,_,_,X⟩:=j6.1 (V S a hf)
  have d:a.eval ix= .int k i:=dI.1 (hi S a hf)
  have h0:0<=i:=by unfold gV at hy;split at hy;assumption;cases hy
  have hy' :xs[i.toNat]? =some y:=by unfold gV at hy;rw [bh h0]at hy;exact hy
  have hlt:i.toNat<xs.length:=(sy.1 hy').1
  obtain⟨b,off,c,T,fr,e1,e2,e3⟩:=PW X hy'
  subst e1
  refine⟨.pointer (some ⟨b,off+i.toNat*r.sz,none⟩),?_,b,_,c,T,fr,rfl,e2,e3⟩
  have hc:0<=i/\i<(xs.length:Int):=⟨h0,by omega⟩
  simp [execOp,Y,d,Instr.indexAt,asIntOf,jt D,hc,ti.sizeOf,jq,hsz]

def lH{α β:Type}(r:Rp α)(off:Nat)(q:Rp β)(get:α->β):Prop:= ∀S cs x,r.rc S cs x->q.rc S ((cs.drop off).take q.sz) (get x)
def bK(P:Program)(T:TypeId)(i:Nat):Option (Nat×Nat):=
 match P.underlying T with
 |some (.struct fs)=>(fs[i]?).bind fun f=>(P.info? f.type).map fun q=>(f.offset,q.size)
 |_=>none
def GY{P:Program}{sz:Nat}(h:bK P T i=some (off,sz)): ∃fs f,P.underlying T=some (.struct fs)/\fs[i]? =some f/\f.offset=off/\ ∀w,(sizeOf f.type).run P w= .ok sz w:=by
 unfold bK at h
 split at h
 ·rename_i fs hu
  cases hf:fs[i]? with
  |none=>rw [hf]at h;simp at h
  |some f=>
   rw [hf]at h
   cases hq:P.info? f.type with
   |none=>simp [hq]at h
   |some q=>
    simp [hq]at h
    exact⟨fs,f,hu,hf,h.1,fun w=>by simp [sizeOf,typeInfo,hq,h.2]⟩
 ·cases h
def gK{r:Rp α}{get:α->β}{x:α}{sz:Nat}{p:Operand}(hf:bK E.P T i=some (off,sz))(h0:Nat.beq sz 0=false)(hq:lH r off q get)(hoff:Nat.ble (off+q.sz) r.sz=true)(hp:aJ E.N G p (dk r x)):cu E O G ⟨dst,.fieldAddr T p i,ty,pos,after,g⟩ (dk q (get x)):=
 .of_pure fun a w S _ _ hF=>by
  obtain⟨b,o,c,U,fr,Y,X,d⟩:=hp S a hF
  obtain⟨fs,f,e1,e2,e3,e4⟩:=GY hf
  have h0' :sz≠0:=fun e=>by subst e;simp at h0
  have hoff' :off+q.sz<=r.sz:=sb hoff
  refine⟨.pointer (some ⟨b,o+off,none⟩),?_,b,_,c,U,fr,rfl,X,?_⟩
  ·simp [execOp,Y,Instr.fieldAt,jt e1,e2,Instr.sureAddr,fieldPlace,e4,h0',e3,jq]
  ·have:=hq S _ x d
   rw [zf,Ax,sJ,xq (by omega)]at this
   exact this
def ak(P:Program)(f:FuncId):Bool:=
 match P.funcs[f]? with
 |some fn=> !(fn.name== "runtime.NumGoroutine")&&fn.body.isSome
 |none=>false
def iK{P:Program}(h:ak P f=true)(args:Array Value)(w:World):(callFunc f args).run P w= .ok (.enter f args) w:=by
 unfold ak at h
 cases hf:P.funcs[f]? with
 |none=>rw [hf]at h;cases h
 |some fn=>
  rw [hf]at h
  simp only [ly,Df]at h
  have Y:fn.name≠ "runtime.NumGoroutine" :=by simpa using h.1
  have X:fn.body≠none:=fun e=>by rw [e]at h;simp at h
  simp [callFunc,hf,Y,X]
def kQ(N:Fr)(G:mg):List Operand->List Ty->Prop
 |[],[]=>True
 |x::xs,t::ts=>aJ N G x t/\kQ N G xs ts
 |_,_=>False
def kQ.tys{N:Fr}(hF:bS N S a G): ∀{xs:List Operand} {ts:List Ty},kQ N G xs ts->xn S ts (xs.map a.eval)
 |[],[],_=>trivial
 |_::_,_::_,⟨Y,X⟩=>⟨Y S a hF,kQ.tys hF X⟩
def dz{xs:List Operand}(hc:ak E.P f=true)(hs:dR E.P f ts t)(V:kQ E.N G xs ts):
  cu E O G ⟨dst,.call ⟨.value (.func f),xs.toArray,ats⟩,ty,pos,after,g⟩ t:=fun a w S hS _ hF=>by
 have hr:(execOp a.eval ⟨dst,.call ⟨.value (.func f),xs.toArray,ats⟩,ty,pos,after,g⟩).run E.P w= .ok (.enter f (xs.map a.eval).toArray) w:=by
  simp [execOp,resolve,Act.eval,Deferred.ofValue,invoke,iK hc]
 refine⟨fun c h=>(by cases h),?_⟩
 rw [hr]
 exact(hs w S _ hS (V.tys hF)).mono fun e w' ⟨v,S',he,Y,X,d⟩=>⟨v,he,v,S',rfl,Y,X,d⟩
end

def nE{o:Obj}(h:k<w.heap.size):(w.alloc o).heap[k]? =w.heap[k]? :=RowKit.Below.heap_alloc w o k h
def SH.set(S:SH)(b:Nat)(o:Obj):SH:=fun k=>if k=b then some o else S k
def m5(S:SH)(b:Nat)(o:Obj):S.set b o b=some o:=bh rfl
def rL(S:SH){b:Nat}(o:Obj)(h:k≠b):S.set b o k=S k:=aQ h
def vN{b:Nat}{o:Obj}(h: ∀q,S b=some q->Jy q o):SH.le S (S.set b o):=fun k q hq=>by
 by_cases hk:k=b
 ·subst hk;exact⟨o,m5 _ _ _,h q hq⟩
 ·exact⟨q,by rw [rL _ _ hk];exact hq,tS q⟩
def mA.set(h:mA w S){b:Nat}{o:Obj}(Y:w.heap[b]? =some o')(X:Jy o o')(d: ∀q,S b=some q->Jy q o):mA w (S.set b o):=by
 refine⟨fun k q hq=>?_,fun p hp=>?_,fun w' hw' =>h.tb w' fun k q hq=>?_⟩
 ·by_cases hk:k=b
  ·subst hk
   rw [m5]at hq
   cases hq
   exact⟨o',Y,X⟩
  ·rw [rL _ _ hk]at hq;exact h k q hq
 ·obtain⟨c,T,fr,g1,g2⟩:=h.gl p hp
  by_cases hk:p.1=b
  ·subst hk
   obtain⟨h3,hd⟩:=d _ g1
   refine⟨_,T,fr,by rw [m5,hd],?_⟩
   rw [List.toList_toArray,AD ?_]
   ·exact g2
   ·have:=congrArg List.length g2
    rw [DZ]at this
    omega
  ·exact⟨c,T,fr,by rw [rL _ _ hk];exact g1,g2⟩
 ·by_cases hk:k=b
  ·subst hk
   obtain⟨o1,g1,g2⟩:=hw' k o (m5 _ _ _)
   exact⟨o1,g1,Hb (d q hq) g2⟩
  ·exact hw' k q (by rw [rL _ _ hk];exact hq)
def jP(o:Obj)(hs:mA w S):kw um w S (w.alloc o) S/\mA (w.alloc o) S/\S w.heap.size=none:=by
 refine⟨⟨rfl,rfl,rfl,eo _,by simp,fun k hk _=>nE hk,SH.le_refl _,fun _ _ _=>rfl⟩,hs.same fun b q H=>nE (hs.lt H),?_⟩
 cases h:S w.heap.size with
 |none=>rfl
 |some q=>have:=hs.lt h;omega
def uV(o:Obj)(hs:mA w S):kw um w S (w.alloc o) (S.set w.heap.size o)/\mA (w.alloc o) (S.set w.heap.size o):=by
 obtain⟨Y,X,d⟩:=jP o hs
 refine⟨⟨rfl,rfl,rfl,eo _,by simp,fun k hk _=>nE hk,vN fun q hq=>(by rw [d]at hq;cases hq),fun k hk _=>rL _ _ (by omega)⟩,X.set (xx w o) (tS o) fun q hq=>by rw [d]at hq;cases hq⟩
def yC(hs:mA w S):kw um w S w.drew S/\mA w.drew S:=⟨⟨rfl,rfl,rfl,Nat.le_succ _,eo _,fun _ _ _=>rfl,SH.le_refl _,fun _ _ _=>rfl⟩,hs.same fun _ _ _=>rfl⟩

def av(l:Option Nat)(cap n:Nat):Value:=
 match l with
 |none=> .slice none 0 0
 |some b=> .slice (some ⟨b,0,none⟩) n cap
def zD(w:World)(T:TypeId)(sz:Nat)(l:Option Nat)(cap n:Nat)(cells:List Value):Prop:=
 match l with
 |none=>n=0/\cells=[]
 |some b=> ∃cur,w.heap[b]? =some (.cells cur T (0,0))/\n<=cap/\cap<=maxLen/\cur.size=cap*sz/\cur.toList.take (n*sz)=cells
def As{α:Type}(m:Bool)(r:Rp α)(T:TypeId)(l:Option Nat)(cap:Nat)(xs:List α)(w:World)(S:SH):Prop:=
 ∃cells,zD w T r.sz l cap xs.length cells/\rh r S cells xs/\ ∀b,l=some b->S b=if m then some (.cells cells.toArray T (0,0))else none
def zD.lt{sz b n:Nat}(h:zD w T sz (some b) cap n cells):b<w.heap.size:=by
 obtain⟨cur,Y,_⟩:=h
 exact(HS.1 Y).1
def zD.ext{sz n:Nat}(h:zD w T sz l cap n cells)(k: ∀b,l=some b->w'.heap[b]? =w.heap[b]?):zD w' T sz l cap n cells:=by
 cases l with
 |none=>exact h
 |some b=>
  obtain⟨cur,Y,X⟩:=h
  exact⟨cur,by rw [k b rfl];exact Y,X⟩
def ml{α:Type}(m:Bool)(r:Rp α)(T:TypeId)(l:Option Nat)(cap:Nat)(xs:List α):OE where
 fp:=fun k=>l=some k
 p:=As m r T l cap xs
 here:=by
  intro w S h k hk
  subst hk
  obtain⟨cells,Y,_⟩:=h
  exact Y.lt
 kept:=by
  intro C w w' S S' h k hC
  obtain⟨cells,Y,X,d⟩:=h
  refine⟨cells,Y.ext fun b H=>?_,sm k.keep X,fun b H=>?_⟩
  ·subst H;exact k.heap b Y.lt (hC b rfl)
  ·subst H;rw [k.old b Y.lt (hC b rfl)];exact d b rfl
abbrev dr{α:Type}(r:Rp α)(T:TypeId)(l:Option Nat)(cap:Nat)(xs:List α):OE:=ml false r T l cap xs
abbrev tip{α:Type}(r:Rp α)(T:TypeId)(l:Option Nat)(cap:Nat)(xs:List α):OE:=ml true r T l cap xs
def app{α:Type}(xs ys:List α):Option (List α):=if xs.length+ys.length<=68719476736 then some (xs++ys)else none
variable{zs:List α}
def T7(h:app xs ys=some zs):zs=xs++ys/\xs.length+ys.length<=68719476736:=by
 unfold app at h
 split at h
 ·exact⟨by simpa using h.symm,by assumption⟩
 ·cases h
variable{news:List Value}
def za{P:Program}{t tx ty:TypeId}{i:TypeInfo}(D:P.underlying t=some (.slice e))(hi:P.info? e=some i){g sLen sCap:Nat}{cur:Array Value}(K:w.heap[g]? =some (.cells cur e (0,0))){x:Value}{n:Nat}(hs:Src P i.size tx x n news w)(hroom:sLen+n<=sCap)(hfit:sLen*i.size+news.length<=cur.size):
  (Builtin.append_ #[t,tx] ty #[.slice (some ⟨g,0,none⟩) sLen sCap,x]).run P w=
   .ok (.slice (some ⟨g,0,none⟩) (sLen+n) sCap) (w.setRow g (cur.toList.take (sLen*i.size)++news++cur.toList.drop (sLen*i.size+news.length)).toArray):=by
 have hst:=run_storeCells_at P g (sLen*i.size) e news 0 cur w K (by simpa using hfit) hs.one
 simp only [CF]at hst
 rcases hs.kind with⟨e',hk⟩|hk<;>simp [Builtin.append_,jt D,jt hk,sizeOf,typeInfo,hi,hs.len,hroom,hs.cells,Addr.add_lit,hst]
structure XA(l:Option Nat)(w w' :World):Prop where
 os:w'.os=w.os
 tape:w'.tape=w.tape
 output:w'.output=w.output
 drawn:w.drawn<=w'.drawn
 size:w.heap.size<=w'.heap.size
 heap: ∀k,k<w.heap.size->l≠some k->w'.heap[k]? =w.heap[k]?
variable{t' :TypeId}
def EE{P:Program}{t ty:TypeId}{sz:Nat}{agg:Bool}{n m:Nat}{x:Value}(ti:TI P T sz bytes agg z)(hz:Nat.beq z.length sz=true)(h0:Nat.blt 0 sz=true)(h128:Nat.ble bytes 2048=true)(D:P.underlying t=some (.slice T))(h:zD w T sz l cap n cells)(hs:Src P sz t' x m news w)(hlen:n+m<=68719476736):
  ∃l' cap' w',(Builtin.append_ #[t,t'] ty #[av l cap n,x]).run P w= .ok (av l' cap' (n+m)) w' /\zD w' T sz l' cap' (n+m) (cells++news)/\XA l w w' /\(∀b,l' =some b->l=some b\/w.heap.size<=b)/\(∀b,l=some b->l' ≠some b->w'.heap[b]? =w.heap[b]?):=by
 obtain⟨i,zv,hi,Y,X,d,h4⟩:=ti.get
 have h128' :=sb h128
 have h0' :0<sz:=by simpa [uW] using h0
 have hz2:z.length=sz:=pG hz
 subst Y
 have hnl:=hs.newsLen
 have hbytes:(n+m)*i.bytes<=140737488355328:=ze (Nat.mul_le_mul hlen (by omega:i.bytes<=2048)) (by omega)
 by_cases hm:m=0
 ·subst hm
  have hn0:news=[]:=sd (by simpa using hnl)
  subst hn0
  refine⟨l,cap,w,?_,by simpa using h,⟨rfl,rfl,rfl,eo _,eo _,fun _ _ _=>rfl⟩,fun b H=> .inl H,fun b _ _=>rfl⟩
  cases l with
  |none=>
   obtain⟨rfl,_⟩:=h
   exact run_append_nothing w t t' ty T i D hi none 0 0 (eo _) _ hs
  |some b=>
   obtain⟨cur,_,hle,_⟩:=h
   exact run_append_nothing w t t' ty T i D hi (some ⟨b,0,none⟩) n cap hle _ hs
 have Yx: ∀old,old<n+m->Builtin.nextslicecap (n+m) old*i.bytes<=281474976710656:=fun old ho=>growslice_fits ho hbytes
 -- a new row
 have fresh: ∀(base:Option Addr) (olds:List Value),av l cap n= .slice base n cap->olds=cells->cap<n+m->(Builtin.firstCells i.size n (.slice base n cap)).run P w.drew= .ok olds.toArray w.drew->cells.length=n*i.size->
   ∃l' cap' w',(Builtin.append_ #[t,t'] ty #[av l cap n,x]).run P w= .ok (av l' cap' (n+m)) w' /\zD w' T i.size l' cap' (n+m) (cells++news)/\XA l w w' /\(∀b,l' =some b->l=some b\/w.heap.size<=b)/\(∀b,l=some b->l' ≠some b->w'.heap[b]? =w.heap[b]?):=by
  intro base olds hv he K hf hcl
  subst he
  have hr:=run_append_grow_src (P:=P) w t t' ty T i zv D hi d base n cap olds hf x m news hs K (by omega) (Yx cap K)
  have hge:=grownCap_ge w (n+m) cap T
  rw [<-hv]at hr
  refine⟨some w.heap.size,grownCap w (n+m) cap T,_,hr,⟨_,xx w.drew _,hge,grownCap_le_maxLen _ _ _ _ (by simp only [maxLen];omega),?_,?_⟩,⟨rfl,rfl,rfl,Nat.le_succ _,by simp,fun k hk _=>?_⟩,fun b H=> .inr (AF (qE H)),fun b H _=>?_⟩
  ·have:(Builtin.zeroCells zv.cells (grownCap w (n+m) cap T-(n+m))).size=(grownCap w (n+m) cap T-(n+m))*i.size:=by
    rw [size_zeroCells,h4];simp [hz2]
   simp only [Array.size_append,Gw,kj,hcl,hnl,this]
   rw [<-xo,<-xo]
   congr 1;omega
  ·have hl2:(olds++news).length=(n+m)*i.size:=by rw [kj,hcl,hnl,xo]
   rw [Array.toList_append,AD (by simp only [List.toList_toArray];omega)]
   simp only [List.toList_toArray]
   exact ul (by omega)
  ·exact nE (w:=w.drew) hk
  ·cases l with
   |none=>cases H
   |some b0=>
    have hb' :b0=b:=qE H
    subst hb'
    exact nE (w:=w.drew) (zD.lt h)
 cases l with
 |none=>
  obtain⟨rfl,rfl⟩:=h
  have:=run_append_grow_src (P:=P) w t t' ty T i zv D hi d none 0 0 [] (run_firstCells_none w.drew i.size 0 0 0) x m news hs (by omega) (by omega) (Yx 0 (by omega))
  have hge:=grownCap_ge w (0+m) 0 T
  refine⟨some w.heap.size,grownCap w (0+m) 0 T,_,this,⟨_,xx w.drew _,hge,grownCap_le_maxLen _ _ _ _ (by simp only [maxLen];omega),?_,?_⟩,⟨rfl,rfl,rfl,Nat.le_succ _,by simp,fun k hk _=>?_⟩,fun b H=> .inr (AF (qE H)),fun b H=>(by cases H)⟩
  ·have:(Builtin.zeroCells zv.cells (grownCap w (0+m) 0 T-(0+m))).size=(grownCap w (0+m) 0 T-(0+m))*i.size:=by
    rw [size_zeroCells,h4];simp [hz2]
   simp only [Array.size_append,Gw,mh,hnl,this]
   rw [<-xo]
   congr 1;omega
  ·rw [Array.toList_append,AD (by simp [hnl])]
   simp only [mh,vj]
   exact ul (by omega)
  ·exact nE (w:=w.drew) hk
 |some b=>
  obtain⟨cur,H,hle,hmax,hcs,hct⟩:=h
  have hcl:cells.length=n*i.size:=by
   rw [<-hct,DZ,CM,hcs]
   exact xq (AC _ hle)
  by_cases hroom:n+m<=cap
  ·have hfit:n*i.size+news.length<=cur.size:=by rw [hnl,hcs,<-xo];exact AC _ hroom
   have hr:=za (t:=t) (tx:=t') (ty:=ty) D hi H hs hroom hfit
   refine⟨some b,cap,_,hr,⟨_,setRow_heap w b cur _ T _ H,hroom,hmax,?_,?_⟩,⟨rfl,rfl,rfl,eo _,by simp [World.setRow],fun k hk hkb=>setRow_other w b k _ (fun e=>hkb (by rw [e]))⟩,fun b' hb' => .inl hb',fun b' hb' hne=>absurd hb' hne⟩
   ·simp only [Gw,kj,DZ,Dd,CM]
    omega
   ·rw [hct,xo,<-hnl,<-hcl,show cells.length+news.length=(cells++news).length from by simp]
    exact List.take_left
  ·refine fresh (some ⟨b,0,none⟩) cells rfl rfl (by omega) (run_firstCells_some w.drew i.size n ⟨b,0,none⟩ n cap cells hcl fun j v hv=>?_) hcl
   have hj:j<cells.length:=(sy.1 hv).1
   have hcell:w.cell? ⟨b,j,none⟩=cur[j]? :=wN H j
   rw [jq]
   show w.cell? ⟨b,0+j,none⟩=_
   rw [vj,hcell]
   rw [<-hct,y9 (by omega)]at hv
   simpa using hv
def ux{P:Program}{r:Rp α}{e' :TypeId}(D:P.underlying t' =some (.slice e'))(hs:mA w S)(hv:(tD (ga r) ys).p S v): ∃news,Src P r.sz t' v ys.length news w/\rh r S news ys:=by
 obtain⟨ad,c2,rfl,hcap,hmax,hsl⟩:=j6.1 hv
 rcases hsl with rfl|⟨b,off,c,U,fr,e1,e2,e3⟩
 ·refine⟨[],?_,rfl⟩
  cases ad with
  |none=>exact .ofNil w D c2
  |some a=>exact .ofSlice w D a 0 c2 [] (by simp) (fun j u hu=>by simp at hu) (fun u hu=>by cases hu)
 ·subst e1
  obtain⟨c',h4,h5⟩:=hs.part e2 (kI e3)
  refine⟨_,.ofSlice w D ⟨b,off,none⟩ ys.length c2 _ (kI e3) (fun j u hu=>?_) (yK e3),e3⟩
  rw [jq,wN h4]
  rw [<-h5]at hu
  have hj:j<ys.length*r.sz:=by
   have:=(sy.1 hu).1
   simp at this;omega
  rw [y9 hj,vX]at hu
  simpa using hu
def kh(ae:Po):List Int:=ae.map fun b=>(b.toNat:Int)
def G7{S:SH}: ∀ae:Po,rh (rI .u8) S (ae.map fun b=>Value.int .u8 b.toNat) (kh ae)
 |[]=>rfl
 |b::ae=>⟨[.int .u8 b.toNat],_,rfl,rfl,G7 ae⟩
def Mh{P:Program}(D:P.underlying t' =some .string)(hv:(tD rS ae).p S v): ∃news,Src P (rI .u8).sz t' v (kh ae).length news w/\rh (rI .u8) S news (kh ae):=by
 have e:=B4.1 hv
 subst e
 refine⟨_,?_,G7 ae⟩
 have:=Src.ofString (P:=P) w D ⟨ae.toArray⟩
 have e1:(ByteArray.mk ae.toArray).size=(kh ae).length:=by simp [ByteArray.size,kh]
 rw [e1]at this
 simpa [byteCells,rI] using this
variable{mm:Bool}
def xF{P:Program}{r:Rp α}{t ty:TypeId}{sz:Nat}{agg:Bool}{base:Nat}{B:Nat->Prop}(ti:TI P T sz bytes agg z)(hsz:r.sz=sz)(hz:Nat.beq z.length sz=true)(h0:Nat.blt 0 sz=true)(h128:Nat.ble bytes 2048=true)(D:P.underlying t=some (.slice T))(hs:mA w S)(h:(ml mm r T l cap xs).holds base B w S)(H:base<=w.heap.size)(hsrc:Src P r.sz t' v ys.length news w)(hrc:rh r S news ys)(hz' :app xs ys=some zs):
  ∃l' cap' w' S',(Builtin.append_ #[t,t'] ty #[av l cap xs.length,v]).run P w= .ok (av l' cap' zs.length) w' /\kw (fun k=>l=some k) w S w' S' /\mA w' S' /\(ml mm r T l' cap' zs).holds base B w' S' /\(∀b,l' =some b->l=some b\/w.heap.size<=b):=by
 subst hsz
 obtain⟨rfl,hlen⟩:=T7 hz'
 obtain⟨⟨cells,Y,X,d⟩,hbase⟩:=h
 obtain⟨l',cap',w',hr,hraw,K,hnew,hold⟩:=EE (ty:=ty) ti hz h0 h128 D Y hsrc hlen
 have hrc' :rh r S (cells++news) (xs++ys):=rs X hrc
 -- what stood settled stands
 have hsat0: ∀k o,S k=some o-> ∃o',w'.heap[k]? =some o' /\Jy o o' :=fun k o hk=>by
  have hlt:=hs.lt hk
  by_cases hkl:l=some k
  ·obtain⟨o',e1,e2⟩:=hs k o hk
   by_cases hkl' :l' =some k
   ·subst hkl'
    subst hkl
    have h3' :=d k rfl
    cases mm with
    |false=>rw [h3']at hk;cases hk
    |true=>
     rw [h3']at hk
     cases hk
     obtain⟨cur',g1,g2,g3,g4,g5⟩:=hraw
     refine⟨_,g1,?_⟩;refine⟨news++cur'.toList.drop ((xs.length+ys.length)*r.sz),?_⟩
     congr 1
     apply Array.ext'
     rw [<-hZ,<-g5,sL]
   ·rw [hold k hkl hkl'];exact hs k o hk
  ·rw [K.heap k hlt hkl];exact hs k o hk
 have hsat:mA w' S:=⟨hsat0,hs.gl,hs.tb⟩
 have hSn: ∀b,l' =some b->l≠some b->S b=none:=fun b hb' hne=>by
  cases hq:S b with
  |none=>rfl
  |some q=>
   have:=hs.lt hq
   rcases hnew b hb' with h|h
   ·exact absurd h hne
   ·omega
 have hbase' : ∀k,l' =some k->base<=k\/B k:=fun k hk=>by
  rcases hnew k hk with h|h
  ·exact hbase k h
  ·exact .inl (by omega)
 have hz2:(xs++ys).length=xs.length+ys.length:=kj
 cases mm with
 |false=>
  refine⟨l',cap',w',S,by rw [hz2];exact hr,⟨K.os,K.tape,K.output,K.drawn,K.size,fun k hk hkb=>K.heap k hk hkb,SH.le_refl _,fun _ _ _=>rfl⟩,hsat,⟨⟨cells++news,by rw [hz2];exact hraw,hrc',fun b hb' =>?_⟩,hbase'⟩,hnew⟩
  by_cases hlb:l=some b
  ·exact d b hlb
  ·exact hSn b hb' hlb
 |true=>
  cases l' with
  |none=>
   refine⟨none,cap',w',S,by rw [hz2];exact hr,⟨K.os,K.tape,K.output,K.drawn,K.size,fun k hk hkb=>K.heap k hk hkb,SH.le_refl _,fun _ _ _=>rfl⟩,hsat,⟨⟨cells++news,by rw [hz2];exact hraw,hrc',fun b hb' =>(by cases hb')⟩,hbase'⟩,hnew⟩
  |some g=>
   have hq3: ∀q,S g=some q->Jy q (.cells (cells++news).toArray T (0,0)):=fun q hq=>by
    by_cases hlb:l=some g
    ·have h4:S g=some (.cells cells.toArray T (0,0)):=d g hlb
     rw [h4]at hq
     cases hq
     exact⟨news,by simp⟩
    ·rw [hSn g rfl hlb]at hq;cases hq
   have hle:SH.le S (S.set g (.cells (cells++news).toArray T (0,0))):=vN hq3
   obtain⟨cur',g1,g2,g3,g4,g5⟩:=hraw
   refine⟨some g,cap',w',S.set g (.cells (cells++news).toArray T (0,0)),by rw [hz2];exact hr,⟨K.os,K.tape,K.output,K.drawn,K.size,fun k hk hkb=>K.heap k hk hkb,hle,fun k hk hkb=>rL _ _ ?_⟩,hsat.set g1 ?_ hq3,⟨⟨cells++news,by rw [hz2];exact⟨cur',g1,g2,g3,g4,g5⟩,sm hle hrc',fun b hb' =>?_⟩,hbase'⟩,hnew⟩
   ·rintro rfl
    rcases hnew k rfl with h|h
    ·exact hkb h
    ·omega
   ·refine⟨cur'.toList.drop ((xs.length+ys.length)*r.sz),?_⟩
    congr 1
    apply Array.ext'
    rw [<-g5,sL]
   ·have hb2:g=b:=qE hb'
    subst hb2
    exact m5 _ _ _

def NF{e f:OE}(h:e.apart f):f.apart e:=fun b H he=>h b he H
def eD.swap{base:Nat}{B:Nat->Prop}{e f:OE}(h:eD base B w S (e::f::O)):eD base B w S (f::e::O):=by
 obtain⟨Y,X,d,h4,h5⟩:=h
 refine⟨d,?_,Y,?_,h5⟩
 ·intro g K
  rcases jl.1 K with rfl|K
  ·exact NF (X _ (nM ..))
  ·exact h4 g K
 ·intro g K
  exact X g (pK _ K)
def vQ{base:Nat}{B:Nat->Prop}{e:OE}{O' :List OE}(h:eD base B w S (e::O))(k:eD base B w S O->eD base B w S O')(hm: ∀f∈O',f∈O):eD base B w S (e::O'):=
 ⟨h.1,fun f hf=>h.2.1 f (hm f hf),k h.2.2⟩
def rM{base:Nat}{B:Nat->Prop}{a b c:OE}(h:eD base B w S (a::b::c::O)):eD base B w S (c::a::b::O):=
 (vQ h eD.swap (fun f hf=>by simp only [jl]at hf ⊢;rcases hf with h|h|h<;>simp [h])).swap
def ug{base:Nat}{B:Nat->Prop}{a b c h3:OE}(h:eD base B w S (a::b::c::h3::O)):eD base B w S (h3::a::b::c::O):=
 (vQ h rM (fun f hf=>by simp only [jl]at hf ⊢;rcases hf with h|h|h|h<;>simp [h])).swap
def wT{base:Nat}{B:Nat->Prop}{a b c h3 e:OE}(h:eD base B w S (a::b::c::h3::e::O)):eD base B w S (e::a::b::c::h3::O):=
 (vQ h ug (fun f hf=>by simp only [jl]at hf ⊢;rcases hf with h|h|h|h|h<;>simp [h])).swap

section
variable{E:En}
def St.own_map{O' :List OE}(h:St E O G a w S)(k:eD E.base E.B w S O->eD E.base E.B w S O'):St E O' G a w S:=⟨h.ext,h.sat,k h.own,h.facts⟩
def St.base_le(h:St E O G a w S):E.base<=w.heap.size:=h.ext.size
def St.drop{e:OE}(h:St E (e::O) G a w S):St E O G a w S:=h.own_map fun h=>h.2.2
def St.fresh(mm:Bool)(r:Rp α)(T:TypeId)(h:St E O G a w S):St E (ml mm r T none 0 []::O) G a w S:=
 h.own_map fun h=>by refine⟨⟨⟨[],⟨rfl,rfl⟩,rfl,fun b H=>(by cases H)⟩,fun k hk=>?_⟩,fun f _ b H=>?_,h⟩<;>(first|cases hk|cases H)
def zV{e:OE}{b:Nat}{o:Obj}(h:St E (e::O) G a w S)(H:e.fp b)(ho:w.heap[b]? =some o')(hoo:Jy o o')(hn:S b=none):St E O G a w (S.set b o)/\SH.le S (S.set b o)/\kw (fun k=>k=b) w S w (S.set b o)/\mA w (S.set b o):=by
 have hbase:=h.own.1.2 b H
 have hle:SH.le S (S.set b o):=vN fun q hq=>(by rw [hn]at hq;cases hq)
 have hsat:mA w (S.set b o):=h.sat.set ho hoo fun q hq=>by rw [hn]at hq;cases hq
 have hext:kw (fun k=>k=b) w S w (S.set b o):=⟨rfl,rfl,rfl,eo _,eo _,fun _ _ _=>rfl,hle,fun k _ hk=>rL _ _ hk⟩
 refine⟨⟨h.ext.step hext fun c hc=>by subst hc;exact hbase,hsat,h.own.2.2.ext hext fun f hf c hc hm=>?_,h.facts.mono hle⟩,hle,hext,hsat⟩
 subst hm
 exact h.own.2.1 f hf c H hc
def tO{α:Type}(r:Rp α)(l:Option Nat)(cap:Nat)(xs:List α):Ty where
 p:=fun S v=>v=av l cap xs.length/\(tD (ga r) xs).p S v
 mono:=fun h ⟨Y,X⟩=>⟨Y,Ty.mono _ h X⟩
def Dm{N:Fr}{G:mg}{r:Rp α}(h:aJ N G x (tO r l cap xs)):aJ N G x (Z (av l cap xs.length)):=fun S a hf=>(h S a hf).1
def rq{N:Fr}{G:mg}{r:Rp α}(h:aJ N G x (tO r l cap xs)):aJ N G x (tD (ga r) xs):=fun S a hf=>(h S a hf).2
def nk{r:Rp α}{w:World}{S:SH}(h:As true r T l cap xs w S):(tD (ga r) xs).p S (av l cap xs.length):=by
 obtain⟨cells,Y,X,d⟩:=h
 cases l with
 |none=>
  have V:xs=[]:=sd Y.1
  subst V
  exact Il
 |some b=>
  obtain⟨cur,g1,g2,g3,g4,g5⟩:=Y
  refine j6.2 ⟨_,cap,rfl,g2,g3,.inr ⟨b,0,cells.toArray,T,(0,0),rfl,d b rfl,?_⟩⟩
  have:=kI X
  rw [zF,ul (by simp [this])]
  exact X
def St.freeze{r:Rp α}(h:St E (dr r T l cap xs::O) G a w S):
  ∃S',St E (tip r T l cap xs::O) G a w S' :=by
 obtain⟨⟨cells,Y,X,d⟩,hbase⟩:=h.own.1
 cases l with
 |none=>exact⟨S,h.ext,h.sat,⟨⟨⟨cells,Y,X,fun b H=>(by cases H)⟩,hbase⟩,h.own.2⟩,h.facts⟩
 |some b=>
  obtain⟨cur,g1,g2,g3,g4,g5⟩:=Y
  have hoo:Jy (.cells cells.toArray T (0,0)) (.cells cur T (0,0)):=by
   refine⟨cur.toList.drop (xs.length*r.sz),?_⟩
   congr 1
   apply Array.ext'
   rw [<-g5,sL]
  obtain⟨h8,hle,_,_⟩:=zV h rfl g1 hoo (d b rfl)
  refine⟨_,h8.ext,h8.sat,⟨⟨⟨cells,⟨cur,g1,g2,g3,g4,g5⟩,sm hle X,fun b' hb' =>?_⟩,hbase⟩,h.own.2.1,h8.own⟩,h8.facts⟩
  have hb2:b=b' :=qE hb'
  subst hb2
  exact m5 _ _ _
def St.settle{r:Rp α}(h:St E (ml mm r T l cap xs::O) G a w S):
  ∃S',St E O G a w S' /\(tD (ga r) xs).p S' (av l cap xs.length):=by
 cases mm with
 |true=>exact⟨S,h.drop,nk h.own.1.1⟩
 |false=>
  obtain⟨S',Y⟩:=h.freeze
  exact⟨S',Y.drop,nk Y.own.1.1⟩
end

section
variable{E:En}{e:Exit}
def M9{N:Fr}(h:bS N S a G)(hk:t.p S (a.tmps.getD k undef)):bS N S a ((k,t)::G):=
 ⟨h.size,h.defers,fun j u hj=>by
  unfold cw at hj
  by_cases H:Nat.beq k j=true
  ·rw [H]at hj
   have:=pG H
   subst this
   rw [<-show t=u from by simpa using hj];exact hk
  ·rw [Ay]at H
   rw [H]at hj
   exact h.at_ j u hj⟩
def St.cons(h:St E O G a w S)(hk:t.p S (a.tmps.getD k undef)):St E O ((k,t)::G) a w S:=⟨h.ext,h.sat,h.own,M9 h.facts hk⟩
def St.tipAt{r:Rp α}{n:Nat}(h:St E (tip r T l cap xs::O) G a w S)(hk:cw G k=some (Z (av l cap n)))(hn:n=xs.length):
  St E (tip r T l cap xs::O) ((k,tO r l cap xs)::G) a w S:=by
 subst hn
 have hv:a.tmps.getD k undef=av l cap xs.length:=h.facts.at_ k _ hk
 exact h.cons ⟨hv,by rw [hv];exact nk h.own.1.1⟩
def cU(mm:Bool)(r:Rp α)(T:TypeId)(h:RG E ops bx rest (ml mm r T none 0 []::O) G):RG E ops bx rest O G:=fun a w S st=>h a w S (st.fresh mm r T)
def BQ{f:OE}(h:RG E ops bx rest O G):RG E ops bx rest (f::O) G:=fun a w S st=>h a w S st.drop
def CG.drop{f:OE}(h:CG E bx c O G):CG E bx c (f::O) G:=fun a w S st=>h a w S st.drop
def aZ{f:OE}(h:AT E bx e O G):AT E bx e (f::O) G:=fun a w S st=>h a w S st.drop
def cN{x y:OE}(h:RG E ops bx rest (y::x::O) G):RG E ops bx rest (x::y::O) G:=fun a w S st=>h a w S (st.own_map eD.swap)
def ah{x y:OE}(h:AT E bx e (y::x::O) G):AT E bx e (x::y::O) G:=fun a w S st=>h a w S (st.own_map eD.swap)
def cI{x y z:OE}(h:RG E ops bx rest (z::x::y::O) G):RG E ops bx rest (x::y::z::O) G:=fun a w S st=>h a w S (st.own_map rM)
def Re{x y z:OE}(h:CG E bx c (z::x::y::O) G):CG E bx c (x::y::z::O) G:=fun a w S st=>h a w S (st.own_map rM)
def aH{x y z:OE}(h:AT E bx e (z::x::y::O) G):AT E bx e (x::y::z::O) G:=fun a w S st=>h a w S (st.own_map rM)
def kZ{x y z:OE}(h:RG E ops bx rest (u::x::y::z::O) G):RG E ops bx rest (x::y::z::u::O) G:=fun a w S st=>h a w S (st.own_map ug)
def aS{x y z:OE}(h:AT E bx e (u::x::y::z::O) G):AT E bx e (x::y::z::u::O) G:=fun a w S st=>h a w S (st.own_map ug)
def lG{x y z v:OE}(h:RG E ops bx rest (v::x::y::z::u::O) G):RG E ops bx rest (x::y::z::u::v::O) G:=fun a w S st=>h a w S (st.own_map wT)
def nK{x y z v:OE}(h:AT E bx e (v::x::y::z::u::O) G):AT E bx e (x::y::z::u::v::O) G:=fun a w S st=>h a w S (st.own_map wT)
def ta{f:OE}(h:LG E bx c O G):LG E bx c (f::O) G:=fun a w S st=>h a w S st.drop
def gN{x y:OE}(h:LG E bx c (y::x::O) G):LG E bx c (x::y::O) G:=fun a w S st=>h a w S (st.own_map eD.swap)
def mX{x y z:OE}(h:LG E bx c (z::x::y::O) G):LG E bx c (x::y::z::O) G:=fun a w S st=>h a w S (st.own_map rM)
def hE{x y z:OE}(h:LG E bx c (u::x::y::z::O) G):LG E bx c (x::y::z::u::O) G:=fun a w S st=>h a w S (st.own_map ug)
def nJ{r:Rp α}(h:RG E ops bx rest (tip r T l cap xs::O) G):RG E ops bx rest (dr r T l cap xs::O) G:=fun a w _ st=>let⟨S',st'⟩:=st.freeze;h a w S' st'
def j4{r:Rp α}{n:Nat}(k:Nat)(hk:cw G k=some (Z (av l cap n)))(h:RG E ops bx rest (tip r T l cap xs::O) ((k,tO r l cap xs)::G))(hn:n=xs.length:=by rfl):RG E ops bx rest (tip r T l cap xs::O) G:=fun a w S st=>h a w S (st.tipAt hk hn)
def Rf{r:Rp α}(h:CG E bx c (tip r T l cap xs::O) G):CG E bx c (dr r T l cap xs::O) G:=fun a w _ st=>let⟨S',st'⟩:=st.freeze;h a w S' st'
def FO{r:Rp α}{n:Nat}(k:Nat)(hk:cw G k=some (Z (av l cap n)))(h:CG E bx c (tip r T l cap xs::O) ((k,tO r l cap xs)::G))(hn:n=xs.length:=by rfl):CG E bx c (tip r T l cap xs::O) G:=fun a w S st=>h a w S (st.tipAt hk hn)
def du{r:Rp α}(h:AT E bx e (tip r T l cap xs::O) G):AT E bx e (dr r T l cap xs::O) G:=fun a w _ st=>let⟨S',st'⟩:=st.freeze;h a w S' st'
def bA{r:Rp α}{n:Nat}(k:Nat)(hk:cw G k=some (Z (av l cap n)))(h:AT E bx e (tip r T l cap xs::O) ((k,tO r l cap xs)::G))(hn:n=xs.length:=by rfl):AT E bx e (tip r T l cap xs::O) G:=fun a w S st=>h a w S (st.tipAt hk hn)
def bt{r:Rp α}(hk:cw G k=some (tD (ga r) xs))(h:xs.length<=maxLen->CG E bx c O G):CG E bx c O G:=fun a w S st=>by
 obtain⟨_,_,_,Y,X,_⟩:=j6.1 (st.facts.at_ k _ hk)
 exact h (ze Y X) a w S st

section
variable{ty:TypeId}
def St.append{r:Rp α}{t ty:TypeId}{sz:Nat}{agg:Bool}(ti:TI E.P T sz bytes agg z)(hsz:r.sz=sz)(hz:Nat.beq z.length sz=true)(h0:Nat.blt 0 sz=true)(h128:Nat.ble bytes 2048=true)(D:E.P.underlying t=some (.slice T))(st:St E (ml mm r T l cap xs::O) G a w S)(hsrc:Src E.P r.sz t' v ys.length news w)(hrc:rh r S news ys)(happ:app xs ys=some zs):
  ∃l' cap' w' S',(Builtin.append_ #[t,t'] ty #[av l cap xs.length,v]).run E.P w= .ok (av l' cap' zs.length) w' /\St E (ml mm r T l' cap' zs::O) G a w' S' :=by
 obtain⟨l',cap',w',S',hr,hext,hsat,hh,hnew⟩:=xF (ty:=ty) ti hsz hz h0 h128 D st.sat st.own.1 st.base_le hsrc hrc happ
 refine⟨l',cap',w',S',hr,st.ext.step hext fun b H=>st.own.1.2 b H,hsat,⟨hh,fun f hf b H hfb=>?_,st.own.2.2.ext hext fun f hf b H hbl=>st.own.2.1 f hf b hbl H⟩,st.facts.mono hext.keep⟩
 rcases hnew b H with h|h
 ·exact st.own.2.1 f hf b h hfb
 ·have:=f.here (eD.mem st.own.2.2 f hf).1 b hfb
  omega
def St.put{h3:Nat}(h:St E O G a w S)(hd:Nat.blt h3 E.N.n=true)(hv:t.p S v):St E O ((h3,t)::G) (a.put (some h3) v) w S:=⟨h.ext,h.sat,h.own,h.facts.put hd hv⟩
def wS{r:Rp α}{t:TypeId}{sz:Nat}{agg:Bool}{n:Nat}{u:Nat->Option Nat->Ty}(ti:TI E.P T sz bytes agg z)(hsz:r.sz=sz)(hz:Nat.beq z.length sz=true)(h0:Nat.blt 0 sz=true)(h128:Nat.ble bytes 2048=true)(D:E.P.underlying t=some (.slice T))(hd:Nat.blt h3 E.N.n=true)(V:aJ E.N G x (Z (av l cap n)))(hy: ∀a w S,St E (ml mm r T l cap xs::O) G a w S-> ∃news,Src E.P r.sz t' (a.eval y) ys.length news w/\rh r S news ys)(happ:app xs ys=some zs)(hu: ∀l' cap' w0 S,(ml mm r T l' cap' zs).p w0 S->(u cap' l').p S (av l' cap' zs.length))(k: ∀l' cap',RG E ops bx rest (ml mm r T l' cap' zs::O) ((h3,u cap' l')::G))(hn:n=xs.length):
  RG E ops bx (⟨some h3,.call ⟨.builtin .append,#[x,y],#[t,t']⟩,ty,pos,after,none⟩::rest) (ml mm r T l cap xs::O) G:= .of rfl fun a w S st=>by
 subst hn
 have Y:a.eval x=av l cap xs.length:=V S a st.facts
 obtain⟨news,X,d⟩:=hy a w S st
 obtain⟨l',cap',w',S',hr,st'⟩:=st.append (ty:=ty) ti hsz hz h0 h128 D X d happ
 have hrun:(execOp a.eval ⟨some h3,.call ⟨.builtin .append,#[x,y],#[t,t']⟩,ty,pos,after,none⟩).run E.P w= .ok (.value (av l' cap' zs.length)) w' :=by
  simp [execOp,resolve,invoke,builtin,Y,hr]
 refine⟨fun c h=>(by cases h),?_⟩
 rw [hrun]
 exact k l' cap' _ _ S' (st'.put hd (hu l' cap' w' S' st'.own.1.1))
def cY{r:Rp α}{t:TypeId}{sz:Nat}{agg:Bool}{n:Nat}(ti:TI E.P T sz bytes agg z)(hsz:r.sz=sz)(hz:Nat.beq z.length sz=true)(h0:Nat.blt 0 sz=true)(h128:Nat.ble bytes 2048=true)(D:E.P.underlying t=some (.slice T))(ht' :t' =t)(hd:Nat.blt h3 E.N.n=true)(V:aJ E.N G x (Z (av l cap n)))(hy:aJ E.N G y (tD (ga r) ys))(happ:app xs ys=some zs)(k: ∀l' cap',RG E ops bx rest (dr r T l' cap' zs::O) ((h3,Z (av l' cap' zs.length))::G))(hn:n=xs.length:=by rfl):
  RG E ops bx (⟨some h3,.call ⟨.builtin .append,#[x,y],#[t,t']⟩,ty,pos,after,none⟩::rest) (dr r T l cap xs::O) G:=by
 subst ht'
 exact wS (u:=fun cap' l' =>Z (av l' cap' zs.length)) ti hsz hz h0 h128 D hd V (fun a w S st=>ux D st.sat (hy S a st.facts)) happ (fun _ _ _ _ _=>rfl) k hn
def wQ{r:Rp α}{t:TypeId}{sz:Nat}{agg:Bool}(ti:TI E.P T sz bytes agg z)(hsz:r.sz=sz)(hz:Nat.beq z.length sz=true)(h0:Nat.blt 0 sz=true)(h128:Nat.ble bytes 2048=true)(D:E.P.underlying t=some (.slice T))(ht' :t' =t)(hd:Nat.blt h3 E.N.n=true)(V:aJ E.N G x (tO r l cap xs))(hy:aJ E.N G y (tD (ga r) ys))(happ:app xs ys=some zs)(k: ∀l' cap',RG E ops bx rest (tip r T l' cap' zs::O) ((h3,tO r l' cap' zs)::G)):
  RG E ops bx (⟨some h3,.call ⟨.builtin .append,#[x,y],#[t,t']⟩,ty,pos,after,none⟩::rest) (tip r T l cap xs::O) G:=by
 subst ht'
 exact wS (u:=fun cap' l' =>tO r l' cap' zs) ti hsz hz h0 h128 D hd (Dm V) (fun a w S st=>ux D st.sat (hy S a st.facts)) happ (fun _ _ _ _ h=>⟨rfl,nk h⟩) k rfl
def NK{t:TypeId}{agg:Bool}{n:Nat}{xs zs:List Int}(ti:TI E.P T 1 bytes agg z)(hz:Nat.beq z.length 1=true)(h128:Nat.ble bytes 2048=true)(D:E.P.underlying t=some (.slice T))(ht' :E.P.underlying t' =some .string)(hd:Nat.blt h3 E.N.n=true)(V:aJ E.N G x (Z (av l cap n)))(hy:aJ E.N G y (tD rS ae))(happ:app xs (kh ae)=some zs)(k: ∀l' cap',RG E ops bx rest (dr (rI .u8) T l' cap' zs::O) ((h3,Z (av l' cap' zs.length))::G))(hn:n=xs.length:=by rfl):
  RG E ops bx (⟨some h3,.call ⟨.builtin .append,#[x,y],#[t,t']⟩,ty,pos,after,none⟩::rest) (dr (rI .u8) T l cap xs::O) G:=
 wS (r:=rI .u8) (u:=fun cap' l' =>Z (av l' cap' zs.length)) ti rfl hz rfl h128 D hd V (fun a w S st=>Mh ht' (hy S a st.facts)) happ (fun _ _ _ _ _=>rfl) k hn
end
end

def Bs(off:Nat): ∀(cs:List Value) (k:Nat) (pre mid post:List Value),mid.length=cs.length->pre.length=off+k->
  (cs.zipIdx k).foldl (fun(a:Array Value) x=>a.setIfInBounds (off+x.2) x.1) (pre++mid++post).toArray=(pre++cs++post).toArray
 |[],k,pre,mid,post,hm,_=>by
  have:mid=[]:=sd hm
  subst this;simp
 |c::cs,k,pre,mid,post,hm,hp=>by
  cases mid with
  |nil=>simp at hm
  |cons m mid=>
   simp only [List.zipIdx_cons,List.foldl_cons]
   have Y:(pre++(m::mid)++post).toArray.setIfInBounds (off+k) c=((pre++[c])++mid++post).toArray:=by
    rw [<-hp]
    simp
   rw [Y,Bs off cs (k+1) (pre++[c]) mid post (by simpa using hm) (by simp;omega)]
   simp
def AP(v:Value)(off:Nat)(pre mid post:List Value)(hm:mid.length=v.cells.size)(hp:pre.length=off):
  v.cells.zipIdx.foldl (fun cs (x:Value×Nat)=>cs.setIfInBounds (off+x.2) x.1) (pre++mid++post).toArray=(pre++v.cells.toList++post).toArray:=by
 have:=Bs off v.cells.toList 0 pre mid post (by simpa using hm) (by simpa using hp)
 rw [<-this,<-Array.foldl_toList]
 simp [Array.toList_zipIdx]
def vp{r:Rp α}{x:α}(h:r.rc S cs x):(r.val cs).cells=cs.toArray:=by
 unfold Rp.val
 cases ha:r.agg with
 |true=>simp [Value.cells]
 |false=>
  have hl:=r.len h
  rw [r.sc ha]at hl
  match cs,hl with
  |[c],_=>
   have:=r.one h c (by simp)
   cases c<;>simp_all [Value.cells,Value.oneCell']
def C4:Nat->List Value->List (Nat×Value)
 |_,[]=>[]
 |k,v::vs=>(k,v)::C4 (k+1) vs
def Fg{α:Type}{r:Rp α}{S:SH}: ∀(ys:List α) (vs:List Value) (k:Nat) (pre zs:List Value),xn S (ys.map (tD r)) vs->pre.length=k*r.sz->zs.length=ys.length*r.sz->
  ∃cs,rh r S cs ys/\Instr.fill (fun i=>some (i*r.sz,r.sz)) (pre++zs).toArray (C4 k vs)=some (pre++cs).toArray
 |[],[],k,pre,zs,_,_,hz=>by
  have:zs=[]:=sd (by simpa using hz)
  subst this
  exact⟨[],rfl,by simp [C4,Instr.fill]⟩
 |y::ys,v::vs,k,pre,zs,⟨⟨c,e,hc⟩,X⟩,hp,hz=>by
  have hl:=r.len hc
  have hz' :r.sz<=zs.length:=by rw [hz,iG,xo];omega
  have e1:zs=zs.take r.sz++zs.drop r.sz:=(sL _ _).symm
  have hcells:v.cells=c.toArray:=by rw [e];exact vp hc
  obtain⟨cs,d,h4⟩:=Fg ys vs (k+1) (pre++c) (zs.drop r.sz) X (by rw [kj,hp,hl,xo];omega) (by rw [Dd,hz,iG,xo];omega)
  refine⟨c++cs,⟨c,cs,rfl,hc,d⟩,?_⟩
  have hs:v.cells.size=r.sz:=by rw [hcells];simpa using hl
  have hcond: ¬((v.cells.size≠r.sz)\/(k*r.sz+v.cells.size>(pre++zs).toArray.size)):=by
   simp [hs];omega
  have h5:=AP v (k*r.sz) pre (zs.take r.sz) (zs.drop r.sz) (by simp [hs];omega) hp
  rw [hZ,<-e1]at h5
  simp only [C4,Instr.fill]
  rw [aQ (by simpa using hcond)]
  rw [h5,hcells]
  simpa using h4
def zz:Nat->List Operand->List (Nat×Operand)
 |_,[]=>[]
 |k,v::vs=>(k,v)::zz (k+1) vs
def Cv(ρ:Operand->Value): ∀(k:Nat) (xs:List Operand),(zz k xs).map (fun x=>(x.1,ρ x.2))=C4 k (xs.map ρ)
 |_,[]=>rfl
 |k,x::xs=>by simp [zz,C4,Cv ρ (k+1) xs]

section
variable{E:En}{ty:TypeId}
def xE{P:Program}{r:Rp α}{xs:List Operand}{ρ:Operand->Value}{t:TypeId}{n sz:Nat}{agg:Bool}(D:P.underlying t=some (.slice T))(ti:TI P T sz bytes agg z)(hsz:r.sz=sz)(hn:n=ys.length)(H:Nat.ble (n*sz) 16777216=true)(V:xn S (ys.map (tD r)) (xs.map ρ))(w:World):
  ∃cs,rh r S cs ys/\(Instr.buildSlice t n ((zz 0 xs).toArray.map fun x=>(x.1,ρ x.2))).run P w= .ok (.slice (some ⟨w.heap.size,0,none⟩) n n) (w.alloc (.cells cs.toArray T (0,0))):=by
 subst hsz
 have hb' :=sb H
 obtain⟨zv,hzr,_⟩:=ti.zero w
 obtain⟨cs,hc,hfill⟩:=Fg ys (xs.map ρ) 0 [] ((Array.range (n*r.sz)).map (fun i=>(if n*r.sz=0 then #[]else zv.cells)[i%(if n*r.sz=0 then #[]else zv.cells).size]!)).toList V (by simp) (by simp [hn])
 refine⟨cs,hc,?_⟩
 have hparts:((zz 0 xs).toArray.map fun x=>(x.1,ρ x.2)).toList=C4 0 (xs.map ρ):=by simp [Cv]
 simp only [mh,Array.toArray_toList]at hfill
 have hle: ¬(n*r.sz>2^24):=by omega
 by_cases hn0:n*r.sz=0
 ·simp only [hn0,jR]at hfill
  simp only [Instr.buildSlice,uh,jt D,vl,ti.sizeOf,Sem.run_ite,hn0,jR,Sem.run_pure,hparts,hfill]
  simp [newRow]
 ·simp only [hn0,lI]at hfill
  simp only [Instr.buildSlice,uh,jt D,vl,ti.sizeOf,Sem.run_ite,hle,lI,hn0,Sem.run_pure,hzr,hparts,hfill]
  simp [newRow]
def ba{r:Rp α}{xs:List Operand}{parts:List (Nat×Operand)}{t:TypeId}{n sz:Nat}{agg:Bool}(D:E.P.underlying t=some (.slice T))(ti:TI E.P T sz bytes agg z)(hsz:r.sz=sz)(h0:Nat.blt 0 sz=true)(hp:parts=zz 0 xs)(hn:n=ys.length)(H:Nat.ble (n*sz) 16777216=true)(V:kQ E.N G xs (ys.map (tD r))):cu E O G ⟨dst,.buildSlice t n parts.toArray,ty,pos,after,g⟩ (tD (ga r) ys):=
 .of_run fun a w S hs _ hf=>by
  obtain⟨cs,hc,hr⟩:=xE D ti hsz hn H (V.tys hf) w
  subst hsz
  have hb' :=sb H
  have h0' :0<r.sz:=by simpa [uW] using h0
  have hnle:n<=n*r.sz:=Nat.le_mul_of_pos_right n h0'
  obtain⟨he,hs'⟩:=uV (w:=w) (.cells cs.toArray T (0,0)) hs
  have hcl:=kI hc
  refine⟨.slice (some ⟨w.heap.size,0,none⟩) n n,_,_,?_,he,hs',j6.2 ⟨_,n,by rw [hn],by omega,by simp only [maxLen];omega,.inr ⟨w.heap.size,0,cs.toArray,T,(0,0),rfl,by simp [SH.set],?_⟩⟩⟩
  ·subst hp
   simp only [execOp,uh,hr,vl,Sem.run_pure]
  ·have:rh r (S.set w.heap.size (.cells cs.toArray T (0,0))) cs ys:=sm he.keep hc
   simpa [<-hcl] using this
def SK{r:Rp α}{v:α}(V:aJ E.N G x (tD r v)):cu E O G ⟨dst,.box T x,ty,pos,after,g⟩ (dk r v):=
 .of_run fun a w S hs _ hf=>by
  obtain⟨cs,hv,hc⟩:=V S a hf
  obtain⟨he,hs'⟩:=uV (w:=w) (.cells cs.toArray T (0,0)) hs
  refine⟨.pointer (some ⟨w.heap.size,0,none⟩),_,_,?_,he,hs',w.heap.size,0,cs.toArray,T,(0,0),rfl,by simp [SH.set],?_⟩
  ·simp [execOp,Instr.box,newVar,newRow,hv,vp hc]
  ·have:=r.mono he.keep hc
   have hl:=r.len hc
   simpa [<-hl] using this
end

def o8(c:Bool)(t:Ty):Ty where
 p:=fun S v=>if c=true then t.p S v else v=undef
 mono:=fun h k=>by
  split
  ·rename_i hc;rw [bh hc]at k;exact t.mono h k
  ·rename_i hc;rw [aQ hc]at k;exact k
variable{gs:Nat}{pol:Bool}
section
variable{E:En}
def bM{N:Fr}{c:Bool}(h:cw G k=some (o8 c t))(hc:c=true):aJ N G (.tmp k) t:=fun _ _ hF=>by
 have X:if c=true then t.p _ (Act.eval _ (.tmp k))else _=undef:=hF.at_ k _ h
 rw [bh hc]at X;exact X
def uG(c b:Bool):Ty:=o8 c (tD rB b)
def qx(h:cw G k=some (tD rB b)):aJ E.N G (.tmp k) (uG true b):=fun _ _ hF=>by
 have X:(tD rB b).p _ (Act.eval _ (.tmp k)):=hF.at_ k _ h
 simp only [uG,o8,jR]
 exact X
def Cl{c:Bool}(h:cw G k=some (o8 c (tD rB b))):aJ E.N G (.tmp k) (uG c b):=fun _ _ hF=>hF.at_ k _ h
def tB{c:Bool}(K:o.guard=some (j,pol))(hj:(ops[j]?).bind (·.dst)=some gs)(hn:gs<a.tmps.size)(hv:(uG c b).p S (a.tmps.getD gs undef)):
  Region.wanted o (yielded ops a.tmps)=(c&&(b==pol)):=by
 have hget:a.tmps[gs]? =some (a.tmps.getD gs undef):=by
  rw [HT,Array.getElem?_eq_getElem hn];rfl
 unfold Region.wanted
 rw [K]
 simp only [yielded,hj,bf,hget]
 cases c with
 |true=>
  have:a.tmps.getD gs undef= .bool b:=ju.1 (by simpa [uG,o8] using hv)
  rw [this]
  cases b<;>cases pol<;>rfl
 |false=>
  have:a.tmps.getD gs undef=undef:=by simpa [uG,o8] using hv
  rw [this]
  cases pol<;>rfl
def Jq{c:Bool}{op:Op}{ty:TypeId}(hj:(ops[j]?).bind (·.dst)=some gs)(hgs:Nat.blt gs E.N.n=true)(K:aJ E.N G (.tmp gs) (uG c b))(hd:Nat.blt h3 E.N.n=true)(h:(c&&(b==pol))=true->cu E O G ⟨some h3,op,ty,pos,after,some (j,pol)⟩ t)(k:RG E ops bx rest O ((h3,o8 (c&&(b==pol)) t)::G)):
  RG E ops bx (⟨some h3,op,ty,pos,after,some (j,pol)⟩::rest) O G:=fun a w S st=>by
 have hgs' :gs<a.tmps.size:=by rw [st.facts.size];simpa [uW] using hgs
 have hw:=tB (o:=⟨some h3,op,ty,pos,after,some (j,pol)⟩) rfl hj hgs' (K S a st.facts)
 refine wpListIn_step fun hg hK=>?_
 rw [hw]
 by_cases hc:(c&&(b==pol))=true
 ·rw [bh hc]
  refine lJ (fun a' w' ⟨v,S',ha,he,hs,hv⟩=>?_) (h hc a w S st.sat st.own st.facts)
  subst ha
  refine hK _ _ (k _ _ _ (st.step he hs hd ?_))
  simpa only [o8,hc,jR] using hv
 ·rw [aQ hc]
  refine⟨fun _ _=>trivial,hK _ _ (k _ _ S (st.step (js _ _ _) st.sat hd ?_))⟩
  show if _ then _ else _
  rw [aQ hc]
end

structure Nd where
 slot:Nat
 ty:Ty
 src:Option Nat
def cq(E:En)(O:List OE)(ops:Array Oper)(need:mg)(o:Oper)(t:Ty):Prop:=
 ∀a w S,mA w S->eD E.base E.B w S O->bS E.N S a need->
  if Region.wanted o (yielded ops a.tmps)then KC E.P o a w (fun a' w' => ∃v S',a' =a.put o.dst v/\kw um w S w' S' /\mA w' S' /\t.p S' v)else t.p S undef
def jL:List Nd->mg
 |[]=>[]
 |n::l=>(n.slot,n.ty)::jL l
def CR(o:Oper)(j:Nat):Bool:=o.after.toList.any fun e=>Nat.beq e.on j&&Region.binds .any e
def pH(l:List Oper)(o:Oper)(i:Nat)(n:Nd):Bool:=
 match n.src with
 |some j=>(match l[j]? with|some p=>(match p.dst with|some h3=>Nat.beq h3 n.slot|none=>false)|none=>false)&&CR o j
 |none=>l.all fun p=>(match p.dst with|some h3=> !(Nat.beq h3 n.slot)|none=>true)||CR p i
def zc(G:mg)(ts:List Ty)(n:Nd):Prop:=
 match n.src with
 |some j=>ts[j]? =some n.ty
 |none=>cw G n.slot=some n.ty
def sw(G:mg)(ts:List Ty):List Nd->Prop
 |[]=>True
 |n::l=>zc G ts n/\sw G ts l
def sw.mem: ∀{l:List Nd},sw G ts l-> ∀n∈l,zc G ts n
 |_::_,⟨h,_⟩,_,.head _=>h
 |_::_,⟨_,h⟩,_,.tail _ hm=>sw.mem h _ hm
def Wi(o:Oper):Nat:=o.dst.getD 0
def eJ(i:Nat)(o:Oper):Bool:=o.after.toList.all fun e=> !(Region.binds .any e)||Nat.blt e.on i
def DR(E:En)(O:List OE)(G:mg)(l:List Oper)(ts:List Ty):Nat->List Oper->Prop
 |_,[]=>True
 |i,o::rest=>(∃(needs:List Nd) (t:Ty),ts[i]? =some t/\sw G ts needs/\(needs.all (pH l o i))=true/\eJ i o=true/\cq E O l.toArray (jL needs) o t)/\DR E O G l ts (i+1) rest
def wa(N:Nat):List Nat->List Oper->Bool
 |_,[]=>true
 |seen,o::rest=>(match o.dst with|some h3=>Nat.blt h3 N&& !(seen.any (Nat.beq h3))&&wa N (h3::seen) rest|none=>false)
def adO(E:En)(O:List OE)(G:mg)(l:List Oper)(ts:List Ty)(i:Nat)(o:Oper):Prop:=
 ∃(needs:List Nd) (t:Ty),ts[i]? =some t/\sw G ts needs/\(needs.all (pH l o i))=true/\eJ i o=true/\cq E O l.toArray (jL needs) o t
def DR.get{E:En}{l:List Oper}(r:List Oper): ∀(k:Nat),DR E O G l ts k r-> ∀(j:Nat) (o:Oper),r[j]? =some o->adO E O G l ts (k+j) o:=by
 induction r with
 |nil=>intro k _ j o h;simp at h
 |cons p r ih=>
  intro k h j o ho
  cases j with
  |zero=>simp at ho;subst ho;exact h.1
  |succ j=>
   have:=ih (k+1) h.2 j o (by simpa using ho)
   rwa [show k+1+j=k+(j+1)from by omega]at this
def xB{N:Nat}(l:List Oper): ∀(seen:List Nat),wa N seen l=true->
  (∀o:Oper,o∈l-> ∃h3,o.dst=some h3/\h3<N/\h3∉seen)/\ ∀(i j:Nat) (o p:Oper),l[i]? =some o->l[j]? =some p->o.dst=p.dst->i=j:=by
 induction l with
 |nil=>exact fun _ _=>⟨fun _ h=>(by cases h),fun _ _ _ _ h=>(by simp at h)⟩
 |cons o l ih=>
  intro seen h
  unfold wa at h
  cases hd:o.dst with
  |none=>rw [hd]at h;cases h
  |some h3=>
   rw [hd]at h
   simp only [ly,Df]at h
   obtain⟨⟨Y,X⟩,d⟩:=h
   have h2' :h3∉seen:=fun hm=>by
    rw [JC]at X
    exact X h3 hm (by simp)
   obtain⟨ih1,ih2⟩:=ih _ d
   refine⟨fun q hq=>?_,fun i j q p hi hj hdp=>?_⟩
   ·rcases jl.1 hq with rfl|hq
    ·exact⟨h3,hd,by simpa [uW] using Y,h2'⟩
    ·obtain⟨d',e1,e2,e3⟩:=ih1 q hq
     exact⟨d',e1,e2,fun hm=>e3 (pK _ hm)⟩
   ·cases i with
    |zero=>
     cases j with
     |zero=>rfl
     |succ j=>
      simp at hi hj
      subst hi
      obtain⟨d',e1,_,e3⟩:=ih1 p (tu hj)
      rw [hd,e1]at hdp
      have e4:h3=d' :=by simpa using hdp
      exact absurd (by rw [e4];exact nM ..) e3
    |succ i=>
     cases j with
     |zero=>
      simp at hi hj
      subst hj
      obtain⟨d',e1,_,e3⟩:=ih1 q (tu hi)
      rw [hd,e1]at hdp
      have e4:d' =h3:=by simpa using hdp
      exact absurd (by rw [e4];exact nM ..) e3
     |succ j=>rw [ih2 i j q p (by simpa using hi) (by simpa using hj) hdp]

structure DJ(E:En)(O:List OE)(G:mg)(l:List Oper)(ts:List Ty)(done:Array Bool)(a:Act)(w:World)(S:SH):Prop where
 ext:kw E.B E.w0 E.S0 w S
 sat:mA w S
 own:eD E.base E.B w S O
 size:a.tmps.size=E.N.n
 defers:a.defers=E.N.ds
 dsz:done.size=l.length
 down: ∀j o,l[j]? =some o->done.getD j false=true-> ∀e∈o.after,Region.binds .any e=true->done.getD e.on false=true
 old: ∀k t,cw G k=some t->(∀j o,l[j]? =some o->done.getD j false=true->o.dst≠some k)->t.p S (a.tmps.getD k undef)
 new: ∀j o h3 t,l[j]? =some o->done.getD j false=true->o.dst=some h3->ts[j]? =some t->t.p S (a.tmps.getD h3 undef)
variable{done:Array Bool}
def DJ.need{E:En}{l:List Oper}(h:DJ E O G l ts done a w S)(hi:l[i]? =some o)(hun:done.getD i true=false)(hwait: ∀e∈o.after,Region.binds .any e=true->done.getD e.on false=true){needs:List Nd}(Y:sw G ts needs)(X:(needs.all (pH l o i))=true):bS E.N S a (jL needs):=by
 have hlt:i<done.size:=by rw [h.dsz];exact(sy.1 hi).1
 have hun' :done.getD i false=false:=by
  simp [hlt]at hun ⊢;exact hun
 refine⟨h.size,h.defers,?_⟩
 have key: ∀n∈needs,n.ty.p S (a.tmps.getD n.slot undef):=by
  intro n hn
  have hs:=kU.1 X n hn
  have ho:=Y.mem n hn
  unfold pH at hs
  unfold zc at ho
  cases hsrc:n.src with
  |some j=>
   rw [hsrc]at hs ho
   simp only [ly]at hs
   obtain⟨hs1,hs2⟩:=hs
   cases hj:l[j]? with
   |none=>rw [hj]at hs1;cases hs1
   |some p=>
    rw [hj]at hs1
    cases hd:p.dst with
    |none=>simp only [hd]at hs1;cases hs1
    |some h3=>
     simp only [hd]at hs1
     have hd' :=pG hs1
     subst hd'
     have hdone:done.getD j false=true:=by
      unfold CR at hs2
      obtain⟨e,he0,H⟩:=D1.1 hs2
      have he:e∈o.after:=by simpa using he0
      simp only [ly]at H
      have:=hwait e he H.2
      rwa [pG H.1]at this
     exact h.new j p n.slot n.ty hj hdone hd ho
  |none=>
   rw [hsrc]at hs ho
   refine h.old _ _ ho fun j p hj hdone hd=>?_
   have:=kU.1 hs p (tu hj)
   simp only [hd,Nat.beq_refl,sI,uX]at this
   unfold CR at this
   obtain⟨e,he0,H⟩:=D1.1 this
   have he:e∈p.after:=by simpa using he0
   simp only [ly]at H
   have d:=h.down j p hj hdone e he H.2
   rw [pG H.1]at d
   rw [d]at hun'
   cases hun'
 clear Y X
 intro k t hk
 induction needs with
 |nil=>simp [jL,cw]at hk
 |cons n needs ih=>
  unfold jL cw at hk
  by_cases H:Nat.beq n.slot k=true
  ·rw [H]at hk
   have:=pG H
   subst this
   have e:n.ty=t:=by simpa using hk
   rw [<-e]
   exact key n (nM ..)
  ·rw [Ay]at H
   rw [H]at hk
   exact ih (fun m hm=>key m (pK _ hm)) hk
def MJ:List Oper->List Ty->mg->mg
 |o::l,t::ts,G=>(Wi o,t)::MJ l ts G
 |_,_,G=>G
def Hh(l:List Oper): ∀(ts:List Ty) (k:Nat) (t:Ty),(∀o:Oper,o∈l->o.dst≠none)->ts.length=l.length->cw (MJ l ts G) k=some t->
  (∃(j:Nat) (o:Oper),l[j]? =some o/\o.dst=some k/\ts[j]? =some t)\/(cw G k=some t/\ ∀o:Oper,o∈l->o.dst≠some k):=by
 induction l with
 |nil=>
  intro ts k t _ hl h
  have:ts=[]:=sd (by simpa using hl)
  subst this
  exact .inr ⟨h,fun _ h=>(by cases h)⟩
 |cons o l ih=>
  intro ts k t hne hl h
  cases ts with
  |nil=>simp at hl
  |cons u ts=>
   unfold MJ cw at h
   by_cases H:Nat.beq (Wi o) k=true
   ·rw [H]at h
    have hk:=pG H
    refine .inl ⟨0,o,rfl,?_,by simpa using h⟩
    cases hd:o.dst with
    |none=>exact absurd hd (hne o (nM ..))
    |some h3=>simp only [Wi,hd,Option.getD_some]at hk;rw [hk]
   ·rw [Ay]at H
    rw [H]at h
    rcases ih ts k t (fun p hp=>hne p (pK _ hp)) (by simpa using hl) h with⟨j,p,Y,X,d⟩|⟨Y,X⟩
    ·exact .inl ⟨j+1,p,by simpa using Y,X,by simpa using d⟩
    ·refine .inr ⟨Y,fun p hp hd=>?_⟩
     rcases jl.1 hp with rfl|hp
     ·simp [Wi,hd]at H
     ·exact X p hp hd
def uA(hd:h3<a.tmps.size):(a.put (some h3) v).tmps.getD k undef=if h3=k then v else a.tmps.getD k undef:=by
 by_cases h:h3=k
 ·subst h;simp [Act.put,HT,hd]
 ·simp [Act.put,HT,h]
def DJ.step{E:En}{l:List Oper}(h:DJ E O G l ts done a w S)(hsl:wa E.N.n [] l=true)(hi:l[i]? =some o)(hwait: ∀e∈o.after,Region.binds .any e=true->done.getD e.on false=true)(D:ts[i]? =some t)(hun:done.getD i true=false)(hext:kw um w S w' S')(hsat:mA w' S')(hv:t.p S' v):DJ E O G l ts (done.setIfInBounds i true) (a.put o.dst v) w' S' :=by
 obtain⟨hs1,hs2⟩:=xB l [] hsl
 obtain⟨h3,hd,hdN,_⟩:=hs1 o (tu hi)
 have hda:h3<a.tmps.size:=by rw [h.size];exact hdN
 have hlt:i<done.size:=by rw [h.dsz];exact(sy.1 hi).1
 have hset: ∀j,(done.setIfInBounds i true).getD j false=true->j=i\/done.getD j false=true:=fun j hj=>by
  by_cases hij:i=j
  ·exact .inl hij.symm
  ·rw [wX false hij]at hj;exact .inr hj
 have hseti:(done.setIfInBounds i true).getD i false=true:=by simp [hlt]
 have hun' :done.getD i false=false:=by simp [hlt]at hun ⊢;exact hun
 refine⟨h.ext.step0 hext,hsat,h.own.ext0 hext,?_,?_,by simp [h.dsz],fun j p hj hdone e he H=>?_,fun k u hk hno=>?_,fun j p d' u hj hdone hd' hu=>?_⟩
 ·rw [hd];simp [Act.put,h.size]
 ·rw [hd];exact h.defers
 ·rcases hset j hdone with rfl|hj'
  ·rw [hi]at hj
   have:o=p:=by simpa using hj
   subst this
   exact y6 (hwait e he H)
  ·exact y6 (h.down j p hj hj' e he H)
 ·have hne:h3≠k:=fun e=>hno i o hi hseti (by rw [hd,e])
  rw [hd,uA hda,aQ hne]
  exact u.mono hext.keep (h.old k u hk fun j p hj hdone=>hno j p hj (y6 hdone))
 ·rw [hd,uA hda]
  rcases hset j hdone with rfl|hj'
  ·rw [hi]at hj
   have:o=p:=by simpa using hj
   subst this
   rw [hd]at hd'
   have:h3=d' :=by simpa using hd'
   subst this
   rw [bh rfl]
   rw [D]at hu
   have:t=u:=by simpa using hu
   subst this
   exact hv
  ·have hne:h3≠d' :=fun e=>by
    subst e
    have:=hs2 i j o p hi hj (by rw [hd,hd'])
    subst this
    rw [hj']at hun';cases hun'
   rw [aQ hne]
   exact u.mono hext.keep (h.new j p d' u hj hj' hd' hu)
def LA{l:List Oper}{done:Array Bool}(hsz:done.size=l.length)(hedge: ∀i o,l[i]? =some o->eJ i o=true)(hr:Region.ready .any l.toArray done=[]): ∀n i,i<n->i<l.length->done.getD i false=true
 |0,i,h,_=>by omega
 |n+1,i,h,hi=>by
  have ih:=LA hsz hedge hr n
  by_cases hd:done.getD i true=true
  ·have:i<done.size:=by omega
   simp [this]at hd ⊢;exact hd
  ·exfalso
   have hmem:i∈Region.ready .any l.toArray done:=by
    rw [tw]
    refine⟨by simpa using hd,l[i],by simp [hi],fun e he H=>?_⟩
    have:=hedge i l[i] (by simp [hi])
    unfold eJ at this
    have:=kU.1 this e (by simpa using he)
    simp only [H,sI,uX,uW]at this
    exact ih e.on (by omega) (by omega)
   rw [hr]at hmem
   cases hmem
def lU(done:Array Bool):Nat:=done.toList.countP (· ==false)
def ro(h:done.getD i true=false):lU (done.setIfInBounds i true)+1=lU done:=by
 have hlt:i<done.size:=by
  rcases oc i done.size with h' |h'
  ·exact h'
  ·simp [Array.getElem?_eq_none h']at h
 have hv:done[i]=false:=by simpa [hlt] using h
 unfold lU
 rw [Array.toList_setIfInBounds,List.countP_set (by simpa using hlt)]
 have X:(done.toList[i]'(by simpa using hlt))=false:=by simpa using hv
 have hpos:0<done.toList.countP (· ==false):=List.countP_pos_iff.2 ⟨done.toList[i]'(by simpa using hlt),CL _,by rw [X];rfl⟩
 rw [X,bh (show(false==false)=true from rfl),aQ (show¬((true==false)=true) by decide)]
 omega
def L8{E:En}{l:List Oper}(hsl:wa E.N.n [] l=true)(hd:DR E O G l ts 0 l)(hQ: ∀done a w S,DJ E O G l ts done a w S->(∀i,i<l.length->done.getD i false=true)->bx .normal a w):
  ∀(fuel:Nat) (done:Array Bool) (a:Act) (w:World) (S:SH),lU done=fuel->DJ E O G l ts done a w S->wpAnyIn (fw E.r) 0 E.P .any l.toArray bx fuel done a w:=by
 have hedge: ∀i o,l[i]? =some o->eJ i o=true:=fun i o hi=>by
  obtain⟨_,_,_,_,_,h,_⟩:=DR.get l 0 hd i o hi
  simpa using h
 have fin: ∀done a w S,DJ E O G l ts done a w S->Region.ready .any l.toArray done=[]->bx .normal a w:=fun done a w S h hr=>
  hQ done a w S h fun i hi=>LA h.dsz hedge hr (i+1) i (by omega) hi
 intro fuel
 induction fuel with
 |zero=>
  intro done a w S hu h
  have hr:Region.ready .any l.toArray done=[]:=by
   cases hr:Region.ready .any l.toArray done with
   |nil=>rfl
   |cons i r=>
    have hm:i∈Region.ready .any l.toArray done:=by rw [hr];exact nM ..
    have:=ro (tw.1 hm).1
    omega
  exact⟨hr,fin done a w S h hr⟩
 |succ fuel ih=>
  intro done a w S hu h
  refine⟨fin done a w S h,fun i hi=>?_⟩
  obtain⟨hun,o,ho,hwait⟩:=tw.1 hi
  have ho' :l[i]? =some o:=by simpa using ho
  obtain⟨needs,t,Y,X,d,_,h5⟩:=DR.get l 0 hd i o ho'
  rw [vj]at Y d
  have hF:=h.need ho' hun hwait X d
  have h6:=h5 a w S h.sat h.own hF
  have hu' :lU (done.setIfInBounds i true)=fuel:=by have:=ro hun;omega
  unfold wpOpIn
  rw [ho]
  show if _ then _ else _
  by_cases hw:Region.wanted o (yielded l.toArray a.tmps)=true
  ·rw [bh hw]at h6 ⊢
   refine lJ (fun a' w' ⟨v,S',ha,he,hs,hv⟩=>?_) h6
   subst ha
   exact ih _ _ _ S' hu' (h.step hsl ho' hwait Y hun he hs hv)
  ·rw [aQ hw]at h6 ⊢
   exact⟨fun _ _=>trivial,ih _ _ _ S hu' (h.step hsl ho' hwait Y hun (js _ _ _) h.sat h6)⟩
section
variable{E:En}
def lx{id:Nat}{l:List Oper}(hm:E.P.follows .mixedOrders=true)(hsl:wa E.N.n [] l=true)(hlen:ts.length=l.length)(hd:DR E O G l ts 0 l)(k:AT E bx .normal O (MJ l ts G)):
  CG E bx (.region id l.toArray true) O G:=fun a w S st=>by
 refine wpIn_region_any hm ?_
 obtain⟨he,hs⟩:=yC (w:=w) st.sat
 refine L8 hsl hd (fun done a w S h hall=>k a w S ⟨h.ext,h.sat,h.own,h.size,h.defers,fun j t hj=>?_⟩) _ _ _ _ S ?_
  ⟨st.ext.step0 he,hs,st.own.ext0 he,st.facts.size,st.facts.defers,by simp,fun j o hj hdone=>?_,fun k t hk _=>st.facts.at_ k t hk,fun j o h3 t hj hdone=>?_⟩
 ·obtain⟨hs1,_⟩:=xB l [] hsl
  rcases Hh l ts j t (fun o ho e=>by obtain⟨h3,hd,_⟩:=hs1 o ho;rw [hd]at e;cases e) hlen hj with⟨i,o,Y,X,d⟩|⟨Y,X⟩
  ·exact h.new i o j t Y (hall i (sy.1 Y).1) X d
  ·exact h.old j t Y fun i o ho _=>X o (tu ho)
 ·unfold lU;rw [NW,NU];simp
 ·simp [zI]at hdone
  split at hdone<;>simp at hdone
 ·simp [zI]at hdone
  split at hdone<;>simp at hdone
def ac{need:mg}(K:o.guard=none)(h:cu E O need o t):cq E O ops need o t:=fun a w S hs ho hf=>by
 have:Region.wanted o (yielded ops a.tmps)=true:=by unfold Region.wanted;rw [K]
 rw [this,bh rfl]
 exact h a w S hs ho hf
def Da{l:List Oper}{need:mg}{c:Bool}(K:o.guard=some (j,pol))(hj:((l.toArray)[j]?).bind (·.dst)=some gs)(hgs:Nat.blt gs E.N.n=true)(H:aJ E.N need (.tmp gs) (uG c b))(h:(c&&(b==pol))=true->cu E O need o t):cq E O l.toArray need o (o8 (c&&(b==pol)) t):=fun a w S hs ho hf=>by
 have hw:=tB (ops:=l.toArray) K hj (by rw [hf.size];simpa [uW] using hgs) (H S a hf)
 rw [hw]
 by_cases hc:(c&&(b==pol))=true
 ·rw [bh hc]
  refine ph (fun a' w' ⟨v,S',ha,he,hs,hv⟩=>⟨v,S',ha,he,hs,?_⟩) (h hc a w S hs ho hf)
  show if _ then _ else _
  rw [bh hc];exact hv
 ·rw [aQ hc]
  show if _ then _ else _
  rw [aQ hc]
end
variable{α0 α1 α2 α3 α4:Type}{Gf:α0->α1->α2->α3->α4->mg}{Of:α0->α1->α2->α3->α4->List OE}{α5 α6 α7 α8:Type}
section
variable{E:En}
def Ri{id:Nat}{tV:Prop}{Of:List OE}{Gf:mg}(hK:tV->AT E bx .normal (Of) (Gf))(h:(tV->AT E bx .normal (Of) (Gf))->CG E (Exit.inBlock id bx) c O G):CG E bx (.block id c) O G:=aA (h hK)
def Rc{x y:Code}{tV:Prop}{Of:List OE}{Gf:mg}(hK:tV->CG E bx y (Of) (Gf))
  (h:(tV->AT E (Exit.then (y.wpIn (fw E.r) 0 E.P bx) bx) .normal (Of) (Gf))->CG E (Exit.then (y.wpIn (fw E.r) 0 E.P bx) bx) x O G):CG E bx (.seq x y) O G:=aU (h (fun hz=>hK hz))
def fC{tV:List β->α0->Prop}{Of:List β->α0->List OE}{Gf:List β->α0->mg}(h0: ∀x0,tV [] x0->LG E bx c (Of [] x0) (Gf [] x0))(h: ∀b l,(∀x0,tV l x0->LG E bx c (Of l x0) (Gf l x0))-> ∀x0,tV (b::l) x0->LG E bx c (Of (b::l) x0) (Gf (b::l) x0)): ∀l,∀x0,tV l x0->LG E bx c (Of l x0) (Gf l x0)
 |[]=>h0
 |b::l=>h b l (fC h0 h l)
def HP{id:Nat}{tV:α0->Prop}{Of:α0->List OE}{Gf:α0->mg}(hK: ∀x0,tV x0->AT E bx .normal (Of x0) (Gf x0))(h:(∀x0,tV x0->AT E bx .normal (Of x0) (Gf x0))->CG E (Exit.inBlock id bx) c O G):CG E bx (.block id c) O G:=aA (h hK)
def i0{x y:Code}{tV:α0->Prop}{Of:α0->List OE}{Gf:α0->mg}(hK: ∀x0,tV x0->CG E bx y (Of x0) (Gf x0))(h:(∀x0,tV x0->AT E (Exit.then (y.wpIn (fw E.r) 0 E.P bx) bx) .normal (Of x0) (Gf x0))->CG E (Exit.then (y.wpIn (fw E.r) 0 E.P bx) bx) x O G):CG E bx (.seq x y) O G:=aU (h (fun x0=>fun hz=>hK x0 hz))
def DW{tV:Nat->α0->α1->Prop}{Of:α0->α1->List OE}{Gf:α0->α1->mg}(h0: ∀x0 x1,tV 0 x0 x1->False)(h: ∀n,(∀x0 x1,tV n x0 x1->LG E bx c (Of x0 x1) (Gf x0 x1))-> ∀x0 x1,tV (n+1) x0 x1->LG E bx c (Of x0 x1) (Gf x0 x1)): ∀n,∀x0 x1,tV n x0 x1->LG E bx c (Of x0 x1) (Gf x0 x1)
 |0=>fun x0 x1 hz=>(h0 x0 x1 hz).elim
 |n+1=>h n (DW h0 h n)
def yA{tV:List β->α0->α1->Prop}{Of:List β->α0->α1->List OE}{Gf:List β->α0->α1->mg}(h0: ∀x0 x1,tV [] x0 x1->LG E bx c (Of [] x0 x1) (Gf [] x0 x1))(h: ∀b l,(∀x0 x1,tV l x0 x1->LG E bx c (Of l x0 x1) (Gf l x0 x1))-> ∀x0 x1,tV (b::l) x0 x1->LG E bx c (Of (b::l) x0 x1) (Gf (b::l) x0 x1)): ∀l,∀x0 x1,tV l x0 x1->LG E bx c (Of l x0 x1) (Gf l x0 x1)
 |[]=>h0
 |b::l=>h b l (yA h0 h l)
def HM{x y:Code}{tV:α0->α1->Prop}{Of:α0->α1->List OE}{Gf:α0->α1->mg}(hK: ∀x0 x1,tV x0 x1->CG E bx y (Of x0 x1) (Gf x0 x1))(h:(∀x0 x1,tV x0 x1->AT E (Exit.then (y.wpIn (fw E.r) 0 E.P bx) bx) .normal (Of x0 x1) (Gf x0 x1))->CG E (Exit.then (y.wpIn (fw E.r) 0 E.P bx) bx) x O G):CG E bx (.seq x y) O G:=aU (h (fun x0 x1=>fun hz=>hK x0 x1 hz))
def Py{tV:Nat->α0->α1->α2->Prop}{Of:α0->α1->α2->List OE}{Gf:α0->α1->α2->mg}(h0: ∀x0 x1 x2,tV 0 x0 x1 x2->False)(h: ∀n,(∀x0 x1 x2,tV n x0 x1 x2->LG E bx c (Of x0 x1 x2) (Gf x0 x1 x2))-> ∀x0 x1 x2,tV (n+1) x0 x1 x2->LG E bx c (Of x0 x1 x2) (Gf x0 x1 x2)): ∀n,∀x0 x1 x2,tV n x0 x1 x2->LG E bx c (Of x0 x1 x2) (Gf x0 x1 x2)
 |0=>fun x0 x1 x2 hz=>(h0 x0 x1 x2 hz).elim
 |n+1=>h n (Py h0 h n)
def FI{tV:List β->α0->α1->α2->Prop}{Of:List β->α0->α1->α2->List OE}{Gf:List β->α0->α1->α2->mg}(h0: ∀x0 x1 x2,tV [] x0 x1 x2->LG E bx c (Of [] x0 x1 x2) (Gf [] x0 x1 x2))(h: ∀b l,(∀x0 x1 x2,tV l x0 x1 x2->LG E bx c (Of l x0 x1 x2) (Gf l x0 x1 x2))-> ∀x0 x1 x2,tV (b::l) x0 x1 x2->LG E bx c (Of (b::l) x0 x1 x2) (Gf (b::l) x0 x1 x2)): ∀l,∀x0 x1 x2,tV l x0 x1 x2->LG E bx c (Of l x0 x1 x2) (Gf l x0 x1 x2)
 |[]=>h0
 |b::l=>h b l (FI h0 h l)
def Px{tV:Nat->α0->α1->α2->Prop}{Of:Nat->α0->α1->α2->List OE}{Gf:Nat->α0->α1->α2->mg}(h0: ∀x0 x1 x2,tV 0 x0 x1 x2->LG E bx c (Of 0 x0 x1 x2) (Gf 0 x0 x1 x2))(h: ∀n,(∀x0 x1 x2,tV n x0 x1 x2->LG E bx c (Of n x0 x1 x2) (Gf n x0 x1 x2))-> ∀x0 x1 x2,tV (n+1) x0 x1 x2->LG E bx c (Of (n+1) x0 x1 x2) (Gf (n+1) x0 x1 x2)): ∀n,∀x0 x1 x2,tV n x0 x1 x2->LG E bx c (Of n x0 x1 x2) (Gf n x0 x1 x2)
 |0=>h0
 |n+1=>h n (Px h0 h n)
def HK{x y:Code}{tV:α0->α1->α2->Prop}{Of:α0->α1->α2->List OE}{Gf:α0->α1->α2->mg}(hK: ∀x0 x1 x2,tV x0 x1 x2->CG E bx y (Of x0 x1 x2) (Gf x0 x1 x2))(h:(∀x0 x1 x2,tV x0 x1 x2->AT E (Exit.then (y.wpIn (fw E.r) 0 E.P bx) bx) .normal (Of x0 x1 x2) (Gf x0 x1 x2))->CG E (Exit.then (y.wpIn (fw E.r) 0 E.P bx) bx) x O G):CG E bx (.seq x y) O G:=aU (h (fun x0 x1 x2=>fun hz=>hK x0 x1 x2 hz))
def DV{tV:Nat->α0->α1->α2->α3->Prop}{Of:α0->α1->α2->α3->List OE}{Gf:α0->α1->α2->α3->mg}(h0: ∀x0 x1 x2 x3,tV 0 x0 x1 x2 x3->False)(h: ∀n,(∀x0 x1 x2 x3,tV n x0 x1 x2 x3->LG E bx c (Of x0 x1 x2 x3) (Gf x0 x1 x2 x3))-> ∀x0 x1 x2 x3,tV (n+1) x0 x1 x2 x3->LG E bx c (Of x0 x1 x2 x3) (Gf x0 x1 x2 x3)): ∀n,∀x0 x1 x2 x3,tV n x0 x1 x2 x3->LG E bx c (Of x0 x1 x2 x3) (Gf x0 x1 x2 x3)
 |0=>fun x0 x1 x2 x3 hz=>(h0 x0 x1 x2 x3 hz).elim
 |n+1=>h n (DV h0 h n)
def nu{tV:List β->α0->α1->α2->α3->Prop}{Of:List β->α0->α1->α2->α3->List OE}{Gf:List β->α0->α1->α2->α3->mg}(h0: ∀x0 x1 x2 x3,tV [] x0 x1 x2 x3->LG E bx c (Of [] x0 x1 x2 x3) (Gf [] x0 x1 x2 x3))(h: ∀b l,(∀x0 x1 x2 x3,tV l x0 x1 x2 x3->LG E bx c (Of l x0 x1 x2 x3) (Gf l x0 x1 x2 x3))-> ∀x0 x1 x2 x3,tV (b::l) x0 x1 x2 x3->LG E bx c (Of (b::l) x0 x1 x2 x3) (Gf (b::l) x0 x1 x2 x3)): ∀l,∀x0 x1 x2 x3,tV l x0 x1 x2 x3->LG E bx c (Of l x0 x1 x2 x3) (Gf l x0 x1 x2 x3)
 |[]=>h0
 |b::l=>h b l (nu h0 h l)
def HO{id:Nat}{tV:α0->α1->α2->α3->Prop}{Of:α0->α1->α2->α3->List OE}{Gf:α0->α1->α2->α3->mg}(hK: ∀x0 x1 x2 x3,tV x0 x1 x2 x3->AT E bx .normal (Of x0 x1 x2 x3) (Gf x0 x1 x2 x3))(h:(∀x0 x1 x2 x3,tV x0 x1 x2 x3->AT E bx .normal (Of x0 x1 x2 x3) (Gf x0 x1 x2 x3))->CG E (Exit.inBlock id bx) c O G):CG E bx (.block id c) O G:=aA (h hK)
def Js{tV:Nat->α0->α1->α2->α3->α4->Prop}(h0: ∀x0 x1 x2 x3 x4,tV 0 x0 x1 x2 x3 x4->False)(h: ∀n,(∀x0 x1 x2 x3 x4,tV n x0 x1 x2 x3 x4->LG E bx c (Of x0 x1 x2 x3 x4) (Gf x0 x1 x2 x3 x4))-> ∀x0 x1 x2 x3 x4,tV (n+1) x0 x1 x2 x3 x4->LG E bx c (Of x0 x1 x2 x3 x4) (Gf x0 x1 x2 x3 x4)): ∀n,∀x0 x1 x2 x3 x4,tV n x0 x1 x2 x3 x4->LG E bx c (Of x0 x1 x2 x3 x4) (Gf x0 x1 x2 x3 x4)
 |0=>fun x0 x1 x2 x3 x4 hz=>(h0 x0 x1 x2 x3 x4 hz).elim
 |n+1=>h n (Js h0 h n)
def LH{tV:List β->α0->α1->α2->α3->α4->Prop}{Of:List β->α0->α1->α2->α3->α4->List OE}{Gf:List β->α0->α1->α2->α3->α4->mg}(h0: ∀x0 x1 x2 x3 x4,tV [] x0 x1 x2 x3 x4->LG E bx c (Of [] x0 x1 x2 x3 x4) (Gf [] x0 x1 x2 x3 x4))(h: ∀b l,(∀x0 x1 x2 x3 x4,tV l x0 x1 x2 x3 x4->LG E bx c (Of l x0 x1 x2 x3 x4) (Gf l x0 x1 x2 x3 x4))-> ∀x0 x1 x2 x3 x4,tV (b::l) x0 x1 x2 x3 x4->LG E bx c (Of (b::l) x0 x1 x2 x3 x4) (Gf (b::l) x0 x1 x2 x3 x4)): ∀l,∀x0 x1 x2 x3 x4,tV l x0 x1 x2 x3 x4->LG E bx c (Of l x0 x1 x2 x3 x4) (Gf l x0 x1 x2 x3 x4)
 |[]=>h0
 |b::l=>h b l (LH h0 h l)
def Pw{tV:Nat->α0->α1->α2->α3->α4->Prop}{Of:Nat->α0->α1->α2->α3->α4->List OE}{Gf:Nat->α0->α1->α2->α3->α4->mg}(h0: ∀x0 x1 x2 x3 x4,tV 0 x0 x1 x2 x3 x4->LG E bx c (Of 0 x0 x1 x2 x3 x4) (Gf 0 x0 x1 x2 x3 x4))(h: ∀n,(∀x0 x1 x2 x3 x4,tV n x0 x1 x2 x3 x4->LG E bx c (Of n x0 x1 x2 x3 x4) (Gf n x0 x1 x2 x3 x4))-> ∀x0 x1 x2 x3 x4,tV (n+1) x0 x1 x2 x3 x4->LG E bx c (Of (n+1) x0 x1 x2 x3 x4) (Gf (n+1) x0 x1 x2 x3 x4)): ∀n,∀x0 x1 x2 x3 x4,tV n x0 x1 x2 x3 x4->LG E bx c (Of n x0 x1 x2 x3 x4) (Gf n x0 x1 x2 x3 x4)
 |0=>h0
 |n+1=>h n (Pw h0 h n)
def vU{id:Nat}{tV:α0->α1->α2->α3->α4->Prop}(hK: ∀x0 x1 x2 x3 x4,tV x0 x1 x2 x3 x4->AT E bx .normal (Of x0 x1 x2 x3 x4) (Gf x0 x1 x2 x3 x4))(h:(∀x0 x1 x2 x3 x4,tV x0 x1 x2 x3 x4->AT E bx .normal (Of x0 x1 x2 x3 x4) (Gf x0 x1 x2 x3 x4))->CG E (Exit.inBlock id bx) c O G):CG E bx (.block id c) O G:=aA (h hK)
def HJ{x y:Code}{tV:α0->α1->α2->α3->α4->Prop}(hK: ∀x0 x1 x2 x3 x4,tV x0 x1 x2 x3 x4->CG E bx y (Of x0 x1 x2 x3 x4) (Gf x0 x1 x2 x3 x4))(h:(∀x0 x1 x2 x3 x4,tV x0 x1 x2 x3 x4->AT E (Exit.then (y.wpIn (fw E.r) 0 E.P bx) bx) .normal (Of x0 x1 x2 x3 x4) (Gf x0 x1 x2 x3 x4))->CG E (Exit.then (y.wpIn (fw E.r) 0 E.P bx) bx) x O G):CG E bx (.seq x y) O G:=aU (h (fun x0 x1 x2 x3 x4=>fun hz=>hK x0 x1 x2 x3 x4 hz))
def wU{tV:Nat->α0->α1->α2->α3->α4->α5->Prop}{Of:α0->α1->α2->α3->α4->α5->List OE}{Gf:α0->α1->α2->α3->α4->α5->mg}(h0: ∀x0 x1 x2 x3 x4 x5,tV 0 x0 x1 x2 x3 x4 x5->False)(h: ∀n,(∀x0 x1 x2 x3 x4 x5,tV n x0 x1 x2 x3 x4 x5->LG E bx c (Of x0 x1 x2 x3 x4 x5) (Gf x0 x1 x2 x3 x4 x5))-> ∀x0 x1 x2 x3 x4 x5,tV (n+1) x0 x1 x2 x3 x4 x5->LG E bx c (Of x0 x1 x2 x3 x4 x5) (Gf x0 x1 x2 x3 x4 x5)): ∀n,∀x0 x1 x2 x3 x4 x5,tV n x0 x1 x2 x3 x4 x5->LG E bx c (Of x0 x1 x2 x3 x4 x5) (Gf x0 x1 x2 x3 x4 x5)
 |0=>fun x0 x1 x2 x3 x4 x5 hz=>(h0 x0 x1 x2 x3 x4 x5 hz).elim
 |n+1=>h n (wU h0 h n)
def LF{tV:List β->α0->α1->α2->α3->α4->α5->Prop}{Of:List β->α0->α1->α2->α3->α4->α5->List OE}{Gf:List β->α0->α1->α2->α3->α4->α5->mg}(h0: ∀x0 x1 x2 x3 x4 x5,tV [] x0 x1 x2 x3 x4 x5->LG E bx c (Of [] x0 x1 x2 x3 x4 x5) (Gf [] x0 x1 x2 x3 x4 x5))(h: ∀b l,(∀x0 x1 x2 x3 x4 x5,tV l x0 x1 x2 x3 x4 x5->LG E bx c (Of l x0 x1 x2 x3 x4 x5) (Gf l x0 x1 x2 x3 x4 x5))-> ∀x0 x1 x2 x3 x4 x5,tV (b::l) x0 x1 x2 x3 x4 x5->LG E bx c (Of (b::l) x0 x1 x2 x3 x4 x5) (Gf (b::l) x0 x1 x2 x3 x4 x5)): ∀l,∀x0 x1 x2 x3 x4 x5,tV l x0 x1 x2 x3 x4 x5->LG E bx c (Of l x0 x1 x2 x3 x4 x5) (Gf l x0 x1 x2 x3 x4 x5)
 |[]=>h0
 |b::l=>h b l (LF h0 h l)
def Rh{id:Nat}{tV:α0->α1->α2->α3->α4->α5->Prop}{Of:α0->α1->α2->α3->α4->α5->List OE}{Gf:α0->α1->α2->α3->α4->α5->mg}(hK: ∀x0 x1 x2 x3 x4 x5,tV x0 x1 x2 x3 x4 x5->AT E bx .normal (Of x0 x1 x2 x3 x4 x5) (Gf x0 x1 x2 x3 x4 x5))(h:(∀x0 x1 x2 x3 x4 x5,tV x0 x1 x2 x3 x4 x5->AT E bx .normal (Of x0 x1 x2 x3 x4 x5) (Gf x0 x1 x2 x3 x4 x5))->CG E (Exit.inBlock id bx) c O G):CG E bx (.block id c) O G:=aA (h hK)
def FH{tV:List β->α0->α1->α2->α3->α4->α5->α6->Prop}{Of:List β->α0->α1->α2->α3->α4->α5->α6->List OE}{Gf:List β->α0->α1->α2->α3->α4->α5->α6->mg}(h0: ∀x0 x1 x2 x3 x4 x5 x6,tV [] x0 x1 x2 x3 x4 x5 x6->LG E bx c (Of [] x0 x1 x2 x3 x4 x5 x6) (Gf [] x0 x1 x2 x3 x4 x5 x6))(h: ∀b l,(∀x0 x1 x2 x3 x4 x5 x6,tV l x0 x1 x2 x3 x4 x5 x6->LG E bx c (Of l x0 x1 x2 x3 x4 x5 x6) (Gf l x0 x1 x2 x3 x4 x5 x6))-> ∀x0 x1 x2 x3 x4 x5 x6,tV (b::l) x0 x1 x2 x3 x4 x5 x6->LG E bx c (Of (b::l) x0 x1 x2 x3 x4 x5 x6) (Gf (b::l) x0 x1 x2 x3 x4 x5 x6)): ∀l,∀x0 x1 x2 x3 x4 x5 x6,tV l x0 x1 x2 x3 x4 x5 x6->LG E bx c (Of l x0 x1 x2 x3 x4 x5 x6) (Gf l x0 x1 x2 x3 x4 x5 x6)
 |[]=>h0
 |b::l=>h b l (FH h0 h l)
def vR{tV:List β->α0->α1->α2->α3->α4->α5->α6->α7->Prop}{Of:List β->α0->α1->α2->α3->α4->α5->α6->α7->List OE}{Gf:List β->α0->α1->α2->α3->α4->α5->α6->α7->mg}(h0: ∀x0 x1 x2 x3 x4 x5 x6 x7,tV [] x0 x1 x2 x3 x4 x5 x6 x7->LG E bx c (Of [] x0 x1 x2 x3 x4 x5 x6 x7) (Gf [] x0 x1 x2 x3 x4 x5 x6 x7))(h: ∀b l,(∀x0 x1 x2 x3 x4 x5 x6 x7,tV l x0 x1 x2 x3 x4 x5 x6 x7->LG E bx c (Of l x0 x1 x2 x3 x4 x5 x6 x7) (Gf l x0 x1 x2 x3 x4 x5 x6 x7))-> ∀x0 x1 x2 x3 x4 x5 x6 x7,tV (b::l) x0 x1 x2 x3 x4 x5 x6 x7->LG E bx c (Of (b::l) x0 x1 x2 x3 x4 x5 x6 x7) (Gf (b::l) x0 x1 x2 x3 x4 x5 x6 x7)): ∀l,∀x0 x1 x2 x3 x4 x5 x6 x7,tV l x0 x1 x2 x3 x4 x5 x6 x7->LG E bx c (Of l x0 x1 x2 x3 x4 x5 x6 x7) (Gf l x0 x1 x2 x3 x4 x5 x6 x7)
 |[]=>h0
 |b::l=>h b l (vR h0 h l)
def BR{tV:List β->α0->α1->α2->α3->α4->α5->α6->α7->α8->Prop}{Of:List β->α0->α1->α2->α3->α4->α5->α6->α7->α8->List OE}{Gf:List β->α0->α1->α2->α3->α4->α5->α6->α7->α8->mg}(h0: ∀x0 x1 x2 x3 x4 x5 x6 x7 x8,tV [] x0 x1 x2 x3 x4 x5 x6 x7 x8->LG E bx c (Of [] x0 x1 x2 x3 x4 x5 x6 x7 x8) (Gf [] x0 x1 x2 x3 x4 x5 x6 x7 x8))(h: ∀b l,(∀x0 x1 x2 x3 x4 x5 x6 x7 x8,tV l x0 x1 x2 x3 x4 x5 x6 x7 x8->LG E bx c (Of l x0 x1 x2 x3 x4 x5 x6 x7 x8) (Gf l x0 x1 x2 x3 x4 x5 x6 x7 x8))-> ∀x0 x1 x2 x3 x4 x5 x6 x7 x8,tV (b::l) x0 x1 x2 x3 x4 x5 x6 x7 x8->LG E bx c (Of (b::l) x0 x1 x2 x3 x4 x5 x6 x7 x8) (Gf (b::l) x0 x1 x2 x3 x4 x5 x6 x7 x8)): ∀l,∀x0 x1 x2 x3 x4 x5 x6 x7 x8,tV l x0 x1 x2 x3 x4 x5 x6 x7 x8->LG E bx c (Of l x0 x1 x2 x3 x4 x5 x6 x7 x8) (Gf l x0 x1 x2 x3 x4 x5 x6 x7 x8)
 |[]=>h0
 |b::l=>h b l (BR h0 h l)
def HN{id:Nat}{tV:α0->α1->α2->α3->α4->α5->α6->α7->α8->Prop}{Of:α0->α1->α2->α3->α4->α5->α6->α7->α8->List OE}{Gf:α0->α1->α2->α3->α4->α5->α6->α7->α8->mg}(hK: ∀x0 x1 x2 x3 x4 x5 x6 x7 x8,tV x0 x1 x2 x3 x4 x5 x6 x7 x8->AT E bx .normal (Of x0 x1 x2 x3 x4 x5 x6 x7 x8) (Gf x0 x1 x2 x3 x4 x5 x6 x7 x8))(h:(∀x0 x1 x2 x3 x4 x5 x6 x7 x8,tV x0 x1 x2 x3 x4 x5 x6 x7 x8->AT E bx .normal (Of x0 x1 x2 x3 x4 x5 x6 x7 x8) (Gf x0 x1 x2 x3 x4 x5 x6 x7 x8))->CG E (Exit.inBlock id bx) c O G):CG E bx (.block id c) O G:=aA (h hK)
def FJ{α9:Type}{tV:Nat->α0->α1->α2->α3->α4->α5->α6->α7->α8->α9->Prop}{Of:α0->α1->α2->α3->α4->α5->α6->α7->α8->α9->List OE}{Gf:α0->α1->α2->α3->α4->α5->α6->α7->α8->α9->mg}(h0: ∀x0 x1 x2 x3 x4 x5 x6 x7 x8 x9,tV 0 x0 x1 x2 x3 x4 x5 x6 x7 x8 x9->False)(h: ∀n,(∀x0 x1 x2 x3 x4 x5 x6 x7 x8 x9,tV n x0 x1 x2 x3 x4 x5 x6 x7 x8 x9->LG E bx c (Of x0 x1 x2 x3 x4 x5 x6 x7 x8 x9) (Gf x0 x1 x2 x3 x4 x5 x6 x7 x8 x9))-> ∀x0 x1 x2 x3 x4 x5 x6 x7 x8 x9,tV (n+1) x0 x1 x2 x3 x4 x5 x6 x7 x8 x9->LG E bx c (Of x0 x1 x2 x3 x4 x5 x6 x7 x8 x9) (Gf x0 x1 x2 x3 x4 x5 x6 x7 x8 x9)): ∀n,∀x0 x1 x2 x3 x4 x5 x6 x7 x8 x9,tV n x0 x1 x2 x3 x4 x5 x6 x7 x8 x9->LG E bx c (Of x0 x1 x2 x3 x4 x5 x6 x7 x8 x9) (Gf x0 x1 x2 x3 x4 x5 x6 x7 x8 x9)
 |0=>fun x0 x1 x2 x3 x4 x5 x6 x7 x8 x9 hz=>(h0 x0 x1 x2 x3 x4 x5 x6 x7 x8 x9 hz).elim
 |n+1=>h n (FJ h0 h n)
end
def bs{α:Type _}{β:Type _}{x:Option α}{k:α->Option β}{r:β}(h:x.bind k=some r): ∃y,x=some y/\k y=some r:=by
 cases x with
 |none=>cases h
 |some y=>exact⟨y,rfl,h⟩
def ct{β:Type _}{x y:Option β}{r:β}(h:(if b=true then x else y)=some r)(H:b=true):x=some r:=by rwa [bh H]at h
def cf{β:Type _}{x y:Option β}{r:β}(h:(if b=true then x else y)=some r)(H:b=false):y=some r:=by rwa [aQ (by rw [H];decide)]at h
def so{β:Type _}{x r:β}(h:some x=some r):x=r:=by simpa using h
def og [Inhabited α]{x:Option α}{k:α->Option β}{h3:Option β}{r:β}(h:(if b=true then x.bind k else h3)=some r): ∃y,(b=true->x=some y/\k y=some r)/\(b=false->h3=some r):=by
 cases b with
 |true=>obtain⟨y,Y,X⟩:=bs (ct h rfl);exact⟨y,fun _=>⟨Y,X⟩,fun e=>(by cases e)⟩
 |false=>exact⟨default,fun e=>(by cases e),fun _=>cf h rfl⟩

def co{α β:Type}(p:Rp α)(q:Rp β):Rp (α×β) where
 sz:=p.sz+q.sz
 agg:=true
 rc:=fun S cs x=> ∃a b,cs=a++b/\p.rc S a x.1/\q.rc S b x.2
 mono:=fun h ⟨a,b,e,Y,X⟩=>⟨a,b,e,p.mono h Y,q.mono h X⟩
 len:=fun⟨a,b,e,Y,X⟩=>by rw [e,kj,p.len Y,q.len X]
 one:=fun⟨a,b,e,Y,X⟩ c hc=>by
  rw [e]at hc
  rcases ui.1 hc with h|h
  ·exact p.one Y c h
  ·exact q.one X c h
 sc:=fun h=>by cases h
def na{α β:Type}(p:Rp α)(f:β->α):Rp β where
 sz:=p.sz
 agg:=true
 rc:=fun S cs x=>p.rc S cs (f x)
 mono:=fun h k=>p.mono h k
 len:=fun h=>p.len h
 one:=fun h=>p.one h
 sc:=fun h=>by cases h
def cd{p:Rp α}{f:β->α}:lH (na p f) 0 p f:=fun S cs x h=>by
 have h' :p.rc S cs (f x):=h
 have hl:=p.len h'
 rw [zF,<-hl,D0];exact h'
def dh{γ:Type}{p:Rp α}{r:Rp γ}{get:γ->α×β}(h:lH r off (co p q) get):lH r off p (fun x=>(get x).1):=fun S cs x k=>by
 obtain⟨a,b,e,Y,X⟩:=h S cs x k
 have hl:=p.len Y
 have hl2:=q.len X
 have:(cs.drop off).take p.sz=a:=by
  have e2:=congrArg (List.take p.sz) e
  rw [Ax,xq (by show p.sz<=p.sz+q.sz;omega),<-hl,List.take_left]at e2
  rw [<-hl];exact e2
 rw [this];exact Y
def aD{γ:Type}{p:Rp α}{r:Rp γ}{off' :Nat}{get:γ->α×β}(h:lH r off (co p q) get)(ho:off' =off+p.sz):lH r off' q (fun x=>(get x).2):=fun S cs x k=>by
 obtain⟨a,b,e,Y,X⟩:=h S cs x k
 have hl:=p.len Y
 have hl2:=q.len X
 have:(cs.drop off').take q.sz=b:=by
  have e2:=congrArg (List.drop p.sz) e
  rw [zf,sJ,<-hl,List.drop_left]at e2
  rw [ho,<-hl,<-e2]
  congr 1
  show q.sz=p.sz+q.sz-a.length
  omega
 rw [this];exact X

section
variable{E:En}
def WC{op:Op}{ty:TypeId}(hj:(ops[j]?).bind (·.dst)=some gs)(hgs:Nat.blt gs E.N.n=true)(K:cw G gs=some (tD rB b))(hd:Nat.blt h3 E.N.n=true)(h:b=true->cu E O G ⟨some h3,op,ty,pos,after,some (j,true)⟩ t)(k:RG E ops bx rest O ((h3,o8 b t)::G)):RG E ops bx (⟨some h3,op,ty,pos,after,some (j,true)⟩::rest) O G:=by
 have e:(true&&(b==true))=b:=by cases b<;>rfl
 exact Jq hj hgs (qx K) hd (by rw [e];exact h) (by rw [e];exact k)
def WD{op:Op}{ty:TypeId}(hj:(ops[j]?).bind (·.dst)=some gs)(hgs:Nat.blt gs E.N.n=true)(K:cw G gs=some (tD rB b))(hd:Nat.blt h3 E.N.n=true)(h:(!b)=true->cu E O G ⟨some h3,op,ty,pos,after,some (j,false)⟩ t)(k:RG E ops bx rest O ((h3,o8 (!b) t)::G)):RG E ops bx (⟨some h3,op,ty,pos,after,some (j,false)⟩::rest) O G:=by
 have e:(true&&(b==false))= !b:=by cases b<;>rfl
 exact Jq hj hgs (qx K) hd (by rw [e];exact h) (by rw [e];exact k)
def jr{c:Bool}{op:Op}{ty:TypeId}(hj:(ops[j]?).bind (·.dst)=some gs)(hgs:Nat.blt gs E.N.n=true)(K:cw G gs=some (o8 c (tD rB b)))(hd:Nat.blt h3 E.N.n=true)(h:(c&&b)=true->cu E O G ⟨some h3,op,ty,pos,after,some (j,true)⟩ t)(k:RG E ops bx rest O ((h3,o8 (c&&b) t)::G)):RG E ops bx (⟨some h3,op,ty,pos,after,some (j,true)⟩::rest) O G:=by
 have e:(c&&(b==true))=(c&&b):=by cases b<;>rfl
 exact Jq hj hgs (Cl K) hd (by rw [e];exact h) (by rw [e];exact k)
def dL{c:Bool}{op:Op}{ty:TypeId}(hj:(ops[j]?).bind (·.dst)=some gs)(hgs:Nat.blt gs E.N.n=true)(K:cw G gs=some (o8 c (tD rB b)))(hd:Nat.blt h3 E.N.n=true)(h:(c&& !b)=true->cu E O G ⟨some h3,op,ty,pos,after,some (j,false)⟩ t)(k:RG E ops bx rest O ((h3,o8 (c&& !b) t)::G)):RG E ops bx (⟨some h3,op,ty,pos,after,some (j,false)⟩::rest) O G:=by
 have e:(c&&(b==false))=(c&& !b):=by cases b<;>rfl
 exact Jq hj hgs (Cl K) hd (by rw [e];exact h) (by rw [e];exact k)
def oW{l:List Oper}{need:mg}(K:o.guard=some (j,true))(hj:((l.toArray)[j]?).bind (·.dst)=some gs)(hgs:Nat.blt gs E.N.n=true)(H:cw need gs=some (tD rB b))(h:b=true->cu E O need o t):cq E O l.toArray need o (o8 b t):=by
 have e:(true&&(b==true))=b:=by cases b<;>rfl
 have:=Da (t:=t) K hj hgs (qx (E:=E) H) (by rw [e];exact h)
 rwa [e]at this
def oX{l:List Oper}{need:mg}(K:o.guard=some (j,false))(hj:((l.toArray)[j]?).bind (·.dst)=some gs)(hgs:Nat.blt gs E.N.n=true)(H:cw need gs=some (tD rB b))(h:(!b)=true->cu E O need o t):cq E O l.toArray need o (o8 (!b) t):=by
 have e:(true&&(b==false))= !b:=by cases b<;>rfl
 have:=Da (t:=t) K hj hgs (qx (E:=E) H) (by rw [e];exact h)
 rwa [e]at this
def Au{a:Bool}(h:a=true)(k:b=true):(a&&b)=true:=by rw [h,k];rfl
def zb{a:Bool}(h:a=false):(!a)=true:=by rw [h];rfl
def BU{c:Operand}{x y:Code}(H:aJ E.N G c (tD rB b))(h:b=true)(V:CG E bx x O G):CG E bx (.cond c x y) O G:=q9 H (fun _=>V) (fun e=>by rw [h]at e;cases e)
def BV{c:Operand}{x y:Code}(H:aJ E.N G c (tD rB b))(h:b=false)(hy:CG E bx y O G):CG E bx (.cond c x y) O G:=q9 H (fun e=>by rw [h]at e;cases e) (fun _=>hy)
end
def og2 [Inhabited α]{x:Option α}{k:α->Option β}{r:β}(h:b=true->x.bind k=some r): ∃y,b=true->x=some y/\k y=some r:=by
 cases b with
 |true=>obtain⟨y,Y,X⟩:=bs (h rfl);exact⟨y,fun _=>⟨Y,X⟩⟩
 |false=>exact⟨default,fun e=>(by cases e)⟩
def nz(n:Int):Option Unit:=if n=0 then none else some ()
def Oz{n:Int}{u:Unit}(h:nz n=some u):n≠0:=fun e=>by rw [e]at h;cases h

section
variable{E:En}{ty:TypeId}
def qd{c:Operand}{q:Bool}(hc:aJ E.N G c (tD rB b))(V:b=true->aJ E.N G x (tD rB q)):cu E O G ⟨dst,.pick c x (.const (.bool false)),ty,pos,after,g⟩ (tD rB (b&&q)):=by
 refine yP hc (fun h=>?_) (fun h=>?_)
 ·subst h;exact V rfl
 ·subst h;exact hB
def nC{c:Operand}{q:Bool}(hc:aJ E.N G c (tD rB b))(V:b=false->aJ E.N G x (tD rB q)):cu E O G ⟨dst,.pick c (.const (.bool true)) x,ty,pos,after,g⟩ (tD rB (b||q)):=by
 refine yP hc (fun h=>?_) (fun h=>?_)
 ·subst h;exact hB
 ·subst h;exact V rfl
def dj{c:Operand}{q t:Bool}(hc:aJ E.N G c (tD rB b))(V:b=true->aJ E.N G x (tD rB q))(e1:b=true->some q=some t)(e0:b=false->some false=some t):cu E O G ⟨dst,.pick c x (.const (.bool false)),ty,pos,after,g⟩ (tD rB t):=by
 refine yP hc (fun h=>?_) (fun h=>?_)
 ·rw [<-so (e1 h)];exact V h
 ·rw [<-so (e0 h)];exact hB
def ru{c:Operand}{q t:Bool}(hc:aJ E.N G c (tD rB b))(V:b=false->aJ E.N G x (tD rB q))(e1:(!b)=true->some q=some t)(e0:(!b)=false->some true=some t):cu E O G ⟨dst,.pick c (.const (.bool true)) x,ty,pos,after,g⟩ (tD rB t):=by
 refine yP hc (fun h=>?_) (fun h=>?_)
 ·rw [<-so (e0 (by rw [h];rfl))];exact hB
 ·rw [<-so (e1 (by rw [h];rfl))];exact V h
def MP(hi:ts[i]? =some t)(V:aJ E.N G x (tT ts)):cu E O G ⟨dst,.extract x i,ty,pos,after,g⟩ t:=
 .of_pure fun a w S _ _ hf=>by
  obtain⟨vs,Y,X⟩:=V S a hf
  obtain⟨v,d,h4⟩:=X.at_ i t hi
  exact⟨v,by simp [execOp,Y,Instr.extract,d],h4⟩
def Ow{k:IntKind}{n:Int}(V:aJ E.N G x (tD (rI k) m))(hy:aJ E.N G y (tD (rI k) n)):cu E O G ⟨dst,.call ⟨.builtin .max,#[x,y],ats⟩,ty,pos,after,g⟩ (tD (rI k) (max m n)):=
 .of_pure fun a w S _ _ hf=>by
  have Y:a.eval x= .int k m:=dI.1 (V S a hf)
  have X:a.eval y= .int k n:=dI.1 (hy S a hf)
  refine⟨.int k (if n>m then n else m),by simp [execOp,resolve,invoke,builtin,Builtin.max_,Builtin.max2,Y,X],dI.2 ?_⟩
  congr 1
  rw [Int.max_def]
  split<;>split<;>omega
def Vc{k:IntKind}{n:Int}(V:aJ E.N G x (tD (rI k) m))(hy:aJ E.N G y (tD (rI k) n)):cu E O G ⟨dst,.call ⟨.builtin .min,#[x,y],ats⟩,ty,pos,after,g⟩ (tD (rI k) (min m n)):=
 .of_pure fun a w S _ _ hf=>by
  have Y:a.eval x= .int k m:=dI.1 (V S a hf)
  have X:a.eval y= .int k n:=dI.1 (hy S a hf)
  refine⟨.int k (if n<m then n else m),by simp [execOp,resolve,invoke,builtin,Builtin.min_,Builtin.min2,Y,X],dI.2 ?_⟩
  congr 1
  rw [Int.min_def]
  split<;>split<;>omega

def lK(P:Program){α β:Type}(args:α->List Ty)(res:β->Ty)(f:α->Option β):Ty where
 p:=fun S v=> ∃fid cap,v= .func (.func fid) #[] cap/\ak P fid=true/\ ∀x y,f x=some y-> ∀w S' vs,SH.le S S' ->mA w S' ->xn S' (args x) vs->
  Calls P fid (vs.toArray++cap) w fun e w' => ∃v S'',e= .returned v/\kw um w S' w' S'' /\mA w' S'' /\(res y).p S'' v
 mono:=fun h ⟨f,cap,e,hc,k⟩=>⟨f,cap,e,hc,fun x y hxy w S' vs hle=>k x y hxy w S' vs (SH.le_trans h hle)⟩
def Ta{N:Fr}{P:Program}{f:α->Option β}{fid:FuncId}(hc:ak P fid=true)(hs: ∀x y,f x=some y->dR P fid (args x) (res y)):aJ N G (.func fid) (lK P args res f):=fun S a _=>
 ⟨fid,#[],rfl,hc,fun x y h w S' vs _ hsat hv=>by simpa using hs x y h w S' vs hsat hv⟩
def xn.append: ∀{ts us:List Ty} {vs ws:List Value},xn S ts vs->xn S us ws->xn S (ts++us) (vs++ws)
 |[],_,[],_,_,h=>h
 |_::_,_,_::_,_,⟨Y,X⟩,h=>⟨Y,xn.append X h⟩
def xT{f:α->Option β}{fid:FuncId}{caps:List Operand}{cts:List Ty}(hc:ak E.P fid=true)(hcap:kQ E.N G caps cts)(hs: ∀x y,f x=some y->dR E.P fid (args x++cts) (res y)):cu E O G ⟨dst,.makeFunc (.func fid) #[] caps.toArray,ty,pos,after,g⟩ (lK E.P args res f):=
 .of_pure fun a w S _ _ hf=>by
  refine⟨.func (.func fid) #[] (caps.map a.eval).toArray,by simp [execOp,Instr.makeFunc],fid,_,rfl,hc,fun x y h w' S' vs hle hsat hv=>?_⟩
  have hcv:=(hcap.tys hf).mono hle
  simpa using hs x y h w' S' _ hsat (hv.append hcv)
def lM{f:α->Option β}{fo:Operand}{x:α}{y:β}{xs:List Operand}(hfo:aJ E.N G fo (lK E.P args res f))(h:f x=some y)(V:kQ E.N G xs (args x)):
  cu E O G ⟨dst,.call ⟨.value fo,xs.toArray,ats⟩,ty,pos,after,g⟩ (res y):=fun a w S hS _ hF=>by
 obtain⟨fid,cap,e,hc,hs⟩:=hfo S a hF
 have hr:(execOp a.eval ⟨dst,.call ⟨.value fo,xs.toArray,ats⟩,ty,pos,after,g⟩).run E.P w= .ok (.enter fid ((xs.map a.eval).toArray++cap)) w:=by
  simp [execOp,resolve,e,Deferred.ofValue,invoke,iK hc]
 refine⟨fun c h=>(by cases h),?_⟩
 rw [hr]
 exact(hs x y h w S _ (SH.le_refl _) hS (V.tys hF)).mono fun e w' ⟨v,S',he,Y,X,d⟩=>⟨v,he,v,S',rfl,Y,X,d⟩
end
def dR.of{P:Program}{N:Nat}(hf:P.funcs[f]? =some fn)(H:fn.body=some c)(hN:fn.ntmps=N)(hn:Nat.ble ts.length N=true)(h: ∀w0 S0,CG ⟨P,⟨N,[]⟩,um,w0,S0,none⟩ (bodyPost P fn (Lr ⟨P,⟨N,[]⟩,um,w0,S0,none⟩ t)) c [] (zw 0 ts)):dR P f ts t:=by
 subst hN
 exact Jl hf H (sb hn) h
def nn{α:Type _}{r:α}(h:(none:Option α)=some r):False:=by cases h
def xj{N:Fr}:aJ N G (.const (.slice none 0 0)) (Z (av none 0 0)):=fun _ _ _=>rfl
def fq:Nat:=2^64
section
variable{E:En}{ty:TypeId}
def MK(l:Option Nat)(cap n:Nat)(h:l=none->n=0): ∃a c,av l cap n= .slice a n c:=by
 cases l with
 |none=>rw [h rfl];exact⟨none,0,rfl⟩
 |some b=>exact⟨_,cap,rfl⟩
def jg{r:Rp α}{n:Nat}{t:TypeId}(D:E.P.underlying t=some (.slice e))(hm:ml mm r T l cap xs∈O)(V:aJ E.N G x (Z (av l cap n)))(hn:n=xs.length:=by rfl):
  cu E O G ⟨dst,.call ⟨.builtin .len,#[x],#[t]⟩,ty,pos,after,g⟩ (tD (rI .i64) (n:Int)):=
 .of_pure fun a w S _ ho hf=>by
  have Y:a.eval x=av l cap n:=V S a hf
  have X:=(ho.mem _ hm).1
  obtain⟨ad,c,d⟩:=MK l cap n (fun e=>by subst e;obtain⟨_,h4,_⟩:=X;rw [hn];exact h4.1)
  refine⟨.int .i64 n,?_,dI.2 rfl⟩
  simp [execOp,resolve,invoke,builtin,Builtin.len_,jt D,Y,d,goInt]
end

structure LU(P:Program){α:Type} [DecidableEq α](t:TypeId)(r:Rp α):Prop where
 guard:P.eqGuardType P.depth t=false
 run: ∀(S:SH) (cs ds:List Value) (x y:α) (h3:Nat) (w:World),r.rc S cs x->r.rc S ds y->(Op.equalIn (h3+20) t (r.val cs) (r.val ds)).run P w= .ok (decide (x=y)) w
section
variable{E:En}{ty:TypeId}
def C3{P:Program}{t:TypeId}(h:P.eqGuardType P.depth t=false){op:BinOp}{x y:Operand}{u v:Array Value}{w:World}:(eqGuard op t x y (.agg u) (.agg v)).run P w= .ok () w:=by
 unfold eqGuard
 cases op<;>first|rfl|simp [h]
def sN{r:Rp α}(h:r.agg=true)(cs:List Value):r.val cs= .agg cs.toArray:=by unfold Rp.val;rw [bh h]
def IG [DecidableEq α]{r:Rp α}{m n:α}(he:LU E.P xt r)(V:aJ E.N G x (tD r m))(hy:aJ E.N G y (tD r n))(ha:r.agg=true:=by rfl):cu E O G ⟨dst,.binOp .eql xt x y yt,ty,pos,after,g⟩ (tD rB (decide (m=n))):=
 .of_pure fun a w S _ _ hf=>by
  obtain⟨cs,Y,X⟩:=V S a hf
  obtain⟨ds,d,h4⟩:=hy S a hf
  refine⟨.bool (decide (m=n)),?_,ju.2 rfl⟩
  have hr:=he.run S cs ds m n 9980 w X h4
  have K:= @C3 E.P xt he.guard .eql x y cs.toArray ds.toArray w
  rw [sN ha,sN ha]at hr
  simp only [execOp,Y,d,sN ha,uh,K,vl,binOp,Op.equal,Op.maxDepth]
  rw [show(10000:Nat)=9980+20 from rfl,hr]
  simp
def yQ [DecidableEq α]{r:Rp α}{m n:α}(he:LU E.P xt r)(V:aJ E.N G x (tD r m))(hy:aJ E.N G y (tD r n))(ha:r.agg=true:=by rfl):cu E O G ⟨dst,.binOp .neq xt x y yt,ty,pos,after,g⟩ (tD rB (!decide (m=n))):=
 .of_pure fun a w S _ _ hf=>by
  obtain⟨cs,Y,X⟩:=V S a hf
  obtain⟨ds,d,h4⟩:=hy S a hf
  refine⟨.bool (!decide (m=n)),?_,ju.2 rfl⟩
  have hr:=he.run S cs ds m n 9980 w X h4
  have K:= @C3 E.P xt he.guard .neq x y cs.toArray ds.toArray w
  rw [sN ha,sN ha]at hr
  simp only [execOp,Y,d,sN ha,uh,K,vl,binOp,Op.equal,Op.maxDepth]
  rw [show(10000:Nat)=9980+20 from rfl,hr]
  simp
end

def rY{base:Nat}{B:Nat->Prop}(h:eD base B w S O)(k:kw um w S w' S'){e:OE}(he:e.p w' S')(hn: ∀b,e.fp b->w.heap.size<=b)(H:base<=w.heap.size:=by first|assumption|exact St.base_le (by assumption)):eD base B w' S' (e::O):=
 ⟨⟨he,fun b hb' => .inl (ze H (hn b hb'))⟩,fun f hf b hb' hfb=>by
  have:=f.here (eD.mem h f hf).1 b hfb
  have:=hn b hb'
  omega,h.ext0 k⟩
def jD(P:Program)(f:FuncId)(ts:List Ty)(mm:Bool){α:Type}(r:Rp α)(T:TypeId)(xs:List α):Prop:=
 ∀w S vs,mA w S->xn S ts vs->Calls P f vs.toArray w fun e w' => ∃l cap S',e= .returned (av l cap xs.length)/\kw um w S w' S' /\mA w' S' /\(ml mm r T l cap xs).holds w.heap.size um w' S'
def Mw{r:Rp α}(h:(ml mm r T l cap xs).holds w.heap.size um w' S')(he:kw um w S w' S')(hs:mA w' S'):
  ∃S'',kw um w S w' S'' /\mA w' S'' /\(tD (ga r) xs).p S'' (av l cap xs.length):=by
 have st:St ⟨default,⟨0,[]⟩,um,w,S,none⟩ [ml mm r T l cap xs] [] ⟨#[],[]⟩ w' S' :=⟨he,hs,⟨h,fun _ hf=>(by cases hf),trivial⟩,⟨rfl,rfl,fun _ _ h=>(by simp [cw]at h)⟩⟩
 obtain⟨S'',Y,X⟩:=st.settle
 exact⟨S'',Y.ext,Y.sat,X⟩
def jD.spec{P:Program}{r:Rp α}(h:jD P f ts mm r T xs):dR P f ts (tD (ga r) xs):=fun w S vs hs hv=>
 (h w S vs hs hv).mono fun e w' ⟨l,cap,S',he,Y,X,d⟩=>by
  obtain⟨S'',h4,h5,h6⟩:=Mw d Y X
  exact⟨_,S'',he,h4,h5,h6⟩
def abg(E:En)(mm:Bool){α:Type}(r:Rp α)(T:TypeId)(xs:List α):Ending->World->Prop:=fun e w' => ∃l cap S',e= .returned (av l cap xs.length)/\kw E.B E.w0 E.S0 w' S' /\mA w' S' /\(ml mm r T l cap xs).holds E.w0.heap.size E.B w' S'
def jD.of{P:Program}{N:Nat}{r:Rp α}(hf:P.funcs[f]? =some fn)(H:fn.body=some c)(hN:fn.ntmps=N)(hn:Nat.ble ts.length N=true)(h: ∀w0 S0,CG ⟨P,⟨N,[]⟩,um,w0,S0,none⟩ (bodyPost P fn (abg ⟨P,⟨N,[]⟩,um,w0,S0,none⟩ mm r T xs)) c [] (zw 0 ts)):jD P f ts mm r T xs:=by
 subst hN
 intro w S vs hs hv
 exact wO.1 (callsIn_of_wp (F:=fw none) (n:=0) hf H trivial (h w S _ w S ⟨js _ _ _,hs,trivial,Al hv _ (sb hn)⟩))
section
variable{E:En}
def ni{P:Program}{N:Nat}{B:Nat->Prop}{w0:World}{S0:SH}{r:Rp α}{n:Nat}(hr:fn.results= #[.tmp k])(hk:cw G k=some (Z (av l cap n)))(hn:n=xs.length:=by rfl):
  AT ⟨P,⟨N,[]⟩,B,w0,S0,none⟩ (bodyPost P fn (abg ⟨P,⟨N,[]⟩,B,w0,S0,none⟩ mm r T xs)) .ret (ml mm r T l cap xs::O) G:=fun a w S st=>by
 subst hn
 have hv:a.tmps.getD k undef=av l cap xs.length:=st.facts.at_ k _ hk
 exact⟨st.facts.defers,_,sC P fn k hr _ _,l,cap,S,by rw [hv],st.ext,st.sat,st.own.1⟩
section
variable{ty:TypeId}
def Q8{xs:List Operand}{r:Rp α}{u:Nat->Option Nat->Ty}(hc:ak E.P f=true)(hs:jD E.P f ts mm r T ys)(V:kQ E.N G xs ts)(hd:Nat.blt h3 E.N.n=true)(hu: ∀l cap w0 S,(ml mm r T l cap ys).p w0 S->(u cap l).p S (av l cap ys.length))(k: ∀l cap,RG E ops bx rest (ml mm r T l cap ys::O) ((h3,u cap l)::G)):
  RG E ops bx (⟨some h3,.call ⟨.value (.func f),xs.toArray,ats⟩,ty,pos,after,none⟩::rest) O G:= .of rfl fun a w S st=>by
 have hr:(execOp a.eval ⟨some h3,.call ⟨.value (.func f),xs.toArray,ats⟩,ty,pos,after,none⟩).run E.P w= .ok (.enter f (xs.map a.eval).toArray) w:=by
  simp [execOp,resolve,Act.eval,Deferred.ofValue,invoke,iK hc]
 refine⟨fun c h=>(by cases h),?_⟩
 rw [hr]
 refine(hs w S _ st.sat (V.tys st.facts)).mono fun e w' ⟨l,cap,S',he,Y,X,d⟩=>⟨_,he,?_⟩;refine k l cap _ _ S' ⟨st.ext.step0 Y,X,rY st.own Y d.1 (fun b H=>(d.2 b H).resolve_right id) st.base_le,(st.facts.mono Y.keep).put hd (hu l cap w' S' d.1)⟩
def Ue{xs:List Operand}{r:Rp α}(hc:ak E.P f=true)(hs:jD E.P f ts false r T ys)(V:kQ E.N G xs ts)(hd:Nat.blt h3 E.N.n=true)(k: ∀l cap,RG E ops bx rest (dr r T l cap ys::O) ((h3,Z (av l cap ys.length))::G)):
  RG E ops bx (⟨some h3,.call ⟨.value (.func f),xs.toArray,ats⟩,ty,pos,after,none⟩::rest) O G:=Q8 (u:=fun cap l=>Z (av l cap ys.length)) hc hs V hd (fun _ _ _ _ _=>rfl) k
def m6{r:Rp α}{xs:List Operand}{parts:List (Nat×Operand)}{t:TypeId}{n sz:Nat}{agg:Bool}(D:E.P.underlying t=some (.slice T))(ti:TI E.P T sz bytes agg z)(hsz:r.sz=sz)(h0:Nat.blt 0 sz=true)(hp:parts=zz 0 xs)(hn:n=ys.length)(H:Nat.ble (n*sz) 16777216=true)(V:kQ E.N G xs (ys.map (tD r)))(hd:Nat.blt h3 E.N.n=true)(k: ∀l cap,RG E ops bx rest (dr r T l cap ys::O) ((h3,Z (av l cap ys.length))::G)):
  RG E ops bx (⟨some h3,.buildSlice t n parts.toArray,ty,pos,after,none⟩::rest) O G:= .of rfl fun a w S st=>by
 obtain⟨cs,hc,hr⟩:=xE D ti hsz hn H (V.tys st.facts) w
 subst hsz
 subst hp
 have hb' :=sb H
 have h0' :0<r.sz:=by simpa [uW] using h0
 have hnle:n<=n*r.sz:=Nat.le_mul_of_pos_right n h0'
 have hcl:=kI hc
 obtain⟨he,hs',hno⟩:=jP (w:=w) (.cells cs.toArray T (0,0)) st.sat
 have hrun:(execOp a.eval ⟨some h3,.buildSlice t n (zz 0 xs).toArray,ty,pos,after,none⟩).run E.P w= .ok (.value (.slice (some ⟨w.heap.size,0,none⟩) n n)) (w.alloc (.cells cs.toArray T (0,0))):=by
  simp only [execOp,uh,hr,vl,Sem.run_pure]
 refine⟨fun c h=>(by cases h),?_⟩
 rw [hrun]
 refine k (some w.heap.size) n _ _ S ⟨st.ext.step0 he,hs',rY st.own he ⟨cs,⟨cs.toArray,xx w _,by omega,by simp only [maxLen];omega,by simp [hcl,hn],by simp [<-hcl]⟩,hc,fun b H=>by rw [<-qE H];exact hno⟩ (fun b H=>AF (qE H)) st.base_le,st.facts.put hd ?_⟩
 ·show _=av _ _ _
  rw [<-hn];rfl
def LD{r:Rp α}{t:TypeId}(D:E.P.underlying t=some (.slice e))(V:aJ E.N G x (tD (ga r) xs))(hd:Nat.blt h3 E.N.n=true)(k: ∀b,(b=true->xs=[])->RG E ops bx rest O ((h3,tD rB b)::G)):RG E ops bx (⟨some h3,.binOp .eql t x (.const (.slice none 0 0)) yt,ty,pos,after,none⟩::rest) O G:= .of rfl fun a w S st=>by
 obtain⟨ad,cap,Y,_,_,X⟩:=j6.1 (V S a st.facts)
 have hrun:(execOp a.eval ⟨some h3,.binOp .eql t x (.const (.slice none 0 0)) yt,ty,pos,after,none⟩).run E.P w= .ok (.value (.bool ad.isNone)) w:=by
  have d:(Op.equal t (.slice ad xs.length cap) (.slice none 0 0)).run E.P w= .ok ad.isNone w:=AS fun h3=>by
   cases ad<;>simp [Op.equalIn,jt D]
  have hcn:a.eval (.const (.slice none 0 0))= .slice none 0 0:=rfl
  simp [execOp,Y,hcn,eqGuard,binOp,d]
 refine⟨fun c h=>(by cases h),?_⟩
 rw [hrun]
 refine k ad.isNone (fun e=>?_) _ _ S (st.step (js _ _ _) st.sat hd (ju.2 rfl))
 rcases X with X|⟨b,off,c,T,fr,e1,_⟩
 ·exact X
 ·subst e1;cases e
end
end

def M(b off:Nat):Value:= .pointer (some ⟨b,off,none⟩)
def Q{α:Type}(r:Rp α)(T:TypeId)(b:Nat)(x:α):OE where
 fp:=fun k=>k=b
 p:=fun w S=>S b=none/\ ∃c,w.heap[b]? =some (.cells c T (0,0))/\r.rc S c.toList x
 here:=by
  intro w S h k hk
  subst hk
  obtain⟨Y,c,X,_⟩:=h
  exact(HS.1 X).1
 kept:=by
  intro C w w' S S' h k hC
  obtain⟨Y,c,X,d⟩:=h
  have hlt:=(HS.1 X).1
  exact⟨by rw [k.old b hlt (hC b rfl)];exact Y,c,by rw [k.heap b hlt (hC b rfl)];exact X,r.mono k.keep d⟩
def rV:Rp Value where
 sz:=1
 agg:=false
 rc:=fun _ cs v=>cs=[v]/\v.oneCell' =true
 mono:=fun _ h=>h
 len:=fun h=>by rw [h.1];rfl
 one:=fun h c hc=>by rw [h.1]at hc;simp at hc;subst hc;exact h.2
 sc:=fun _=>rfl
def yE{u:Value}:(tD rV u).p S v↔v=u/\u.oneCell' =true:=by
 constructor
 ·rintro⟨cs,rfl,Y,X⟩;subst Y;exact⟨rfl,X⟩
 ·rintro⟨rfl,h⟩;exact⟨[v],rfl,rfl,h⟩
def fa{α β:Type}(r:Rp α)(off:Nat)(q:Rp β)(set:α->β->α):Prop:= ∀S cs x ds y,r.rc S cs x->q.rc S ds y->r.rc S (cs.take off++ds++cs.drop (off+q.sz)) (set x y)
section
variable{E:En}{e:Exit}
def St.settleB{r:Rp α}{b:Nat}{x:α}(h:St E (Q r T b x::O) G a w S)(hk:cw G k=some (Z (M b 0))): ∃S',St E O ((k,dk r x)::G) a w S' :=by
 obtain⟨⟨hn,cur,d,h4⟩,_⟩:=h.own.1
 obtain⟨h8,hle,_,_⟩:=zV h rfl d (tS _) hn
 have hv:a.tmps.getD k undef=M b 0:=h.facts.at_ k _ hk
 refine⟨_,h8.cons ⟨b,0,cur,T,(0,0),hv,by simp [SH.set],?_⟩⟩
 have hl:cur.size=r.sz:=by have:=r.len h4;simpa using this
 have:=r.mono hle h4
 rw [zF,ul (by simp [hl])];exact this
def be{r:Rp α}{b:Nat}{x:α}(k:Nat)(hk:cw G k=some (Z (M b 0)))(h:RG E ops bx rest O ((k,dk r x)::G)):RG E ops bx rest (Q r T b x::O) G:=
 fun a w _ st=>let⟨S',st'⟩:=st.settleB hk;h a w S' st'
def fJ{r:Rp α}{b:Nat}{x:α}(k:Nat)(hk:cw G k=some (Z (M b 0)))(h:AT E bx e O ((k,dk r x)::G)):AT E bx e (Q r T b x::O) G:=
 fun a w _ st=>let⟨S',st'⟩:=st.settleB hk;h a w S' st'
section
variable{ty:TypeId}
def bv{r:Rp α}{x:α}{sz:Nat}{agg:Bool}(ti:TI E.P T sz bytes agg z)(V: ∀S,r.rc S z x)(hd:Nat.blt h3 E.N.n=true)(k: ∀b,RG E ops bx rest (Q r T b x::O) ((h3,Z (M b 0))::G)):RG E ops bx (⟨some h3,.alloc T,ty,pos,after,none⟩::rest) O G:= .of rfl fun a w S st=>by
 obtain⟨zv,hzr,hzc⟩:=ti.zero w
 obtain⟨he,hs',hno⟩:=jP (w:=w) (.cells z.toArray T (0,0)) st.sat
 have hrun:(execOp a.eval ⟨some h3,.alloc T,ty,pos,after,none⟩).run E.P w= .ok (.value (M w.heap.size 0)) (w.alloc (.cells z.toArray T (0,0))):=by
  simp [execOp,Instr.alloc,hzr,newVar,newRow,hzc,M]
 refine⟨fun c h=>(by cases h),?_⟩
 rw [hrun]
 exact k w.heap.size _ _ S ⟨st.ext.step0 he,hs',rY st.own he ⟨hno,z.toArray,xx w _,by simpa using V S⟩ (fun b H=>AF H.symm) st.base_le,st.facts.put hd rfl⟩
def uU{r:Rp α}{v:α}(V:aJ E.N G x (tD r v))(hd:Nat.blt h3 E.N.n=true)(k: ∀b,RG E ops bx rest (Q r T b v::O) ((h3,Z (M b 0))::G)):RG E ops bx (⟨some h3,.box T x,ty,pos,after,none⟩::rest) O G:= .of rfl fun a w S st=>by
 obtain⟨cs,hv,hc⟩:=V S a st.facts
 obtain⟨he,hs',hno⟩:=jP (w:=w) (.cells cs.toArray T (0,0)) st.sat
 have hrun:(execOp a.eval ⟨some h3,.box T x,ty,pos,after,none⟩).run E.P w= .ok (.value (M w.heap.size 0)) (w.alloc (.cells cs.toArray T (0,0))):=by
  simp [execOp,Instr.box,newVar,newRow,hv,vp hc,M]
 refine⟨fun c h=>(by cases h),?_⟩
 rw [hrun]
 exact k w.heap.size _ _ S ⟨st.ext.step0 he,hs',rY st.own he ⟨hno,cs.toArray,xx w _,by simpa using hc⟩ (fun b H=>AF H.symm) st.base_le,st.facts.put hd rfl⟩
def ny{base:Nat}{B:Nat->Prop}{b:Nat}(hs:mA w S)(f f' :OE)(h:eD base B w S (f::O))(hf: ∀k,f.fp k↔k=b)(hf' : ∀k,f'.fp k↔k=b)(K:w'.os=w.os/\w'.tape=w.tape/\w'.output=w.output/\w'.heap.size=w.heap.size/\w.drawn<=w'.drawn)(ho: ∀k,k≠b->w'.heap[k]? =w.heap[k]?)(hp:f'.p w' S)(hno:S b=none):kw (fun k=>k=b) w S w' S/\mA w' S/\eD base B w' S (f' ::O):=by
 have hext:kw (fun k=>k=b) w S w' S:=⟨K.1,K.2.1,K.2.2.1,K.2.2.2.2,by omega,fun k _ hk=>ho k hk,SH.le_refl _,fun _ _ _=>rfl⟩
 refine⟨hext,hs.same fun k o hk=>?_,⟨hp,fun k hk=>h.1.2 k ((hf k).2 ((hf' k).1 hk))⟩,fun g hgm k hk=>h.2.1 g hgm k ((hf k).2 ((hf' k).1 hk)),h.2.2.ext hext fun g hgm k hk hkb=>h.2.1 g hgm k ((hf k).2 hkb) hk⟩
 have hne:k≠b:=fun e=>by subst e;rw [hno]at hk;cases hk
 exact ho k hne
def km{P:Program}{q:Rp α}{sz:Nat}{agg:Bool}(ti:TI P U sz bytes agg z)(hsz:q.sz=sz){ds:List Value}{y:α}(hy:q.rc S ds y){b:Nat}{cur:Array Value}(K:w.heap[b]? =some (.cells cur T (0,0)))(hfit:off+q.sz<=cur.size):
  ∃w',(storeVar U ⟨b,off,none⟩ (q.val ds)).run P w= .ok () w' /\w'.os=w.os/\w'.tape=w.tape/\w'.output=w.output/\(w'.heap.size=w.heap.size/\w.drawn<=w'.drawn)/\w'.heap[b]? =some (.cells (cur.toList.take off++ds++cur.toList.drop (off+q.sz)).toArray T (0,0))/\ ∀k,k≠b->w'.heap[k]? =w.heap[k]? :=by
 have hl:=q.len hy
 have hst:=run_storeCells_at P b off T ds 0 cur w K (by omega) (q.one hy)
 simp only [CF]at hst
 refine⟨w.setRow b (cur.toList.take off++ds++cur.toList.drop (off+ds.length)).toArray,?_,rfl,rfl,rfl,⟨?_,eo _⟩,?_,fun k hk=>setRow_other w b k _ hk⟩
 ·generalize (cur.toList.take off++ds++cur.toList.drop (off+ds.length)).toArray=h2 at hst ⊢
  simp only [storeVar,uh,ti.sizeOf,vl,vp hy,Gw,hl,hsz]
  simp only [ne_eq,not_true_eq_false,lI]
  simpa using hst
 ·simp [World.setRow]
 ·rw [setRow_heap w b cur _ T _ K,<-hl]
def ej{r:Rp α}{set:α->β->α}{x:α}{y:β}{b sz:Nat}{agg:Bool}{p v:Operand}(ti:TI E.P U sz bytes agg z)(hsz:q.sz=sz)(hset:fa r off q set)(hoff:Nat.ble (off+q.sz) r.sz=true)(hp:aJ E.N G p (Z (M b off)))(hv:aJ E.N G v (tD q y))(k:RG E ops bx rest (Q r T b (set x y)::O) G):RG E ops bx (⟨none,.store U p v,ty,pos,after,none⟩::rest) (Q r T b x::O) G:= .of rfl fun a w S st=>by
 have Y:a.eval p=M b off:=hp S a st.facts
 obtain⟨ds,X,d⟩:=hv S a st.facts
 obtain⟨⟨hno,cur,h5,h6⟩,_⟩:=st.own.1
 have hl:=r.len h6
 have hoff' :=sb hoff
 obtain⟨w',hr,e1,e2,e3,e4,e5,e6⟩:=km ti hsz d h5 (off:=off) (by simp at hl;omega)
 have hrun:(execOp a.eval ⟨none,.store U p v,ty,pos,after,none⟩).run E.P w= .ok .skip w' :=by
  simp [execOp,Y,X,Instr.storeAt,M,Instr.sureAddr,hr]
 refine⟨fun c h=>(by cases h),?_⟩
 rw [hrun]
 obtain⟨g1,g2,g3⟩:=ny (O:=O) st.sat (Q r T b x) (Q r T b (set x y)) st.own (fun _=>tv) (fun _=>tv) ⟨e1,e2,e3,e4.1,e4.2⟩ e6 ⟨hno,_,e5,by simpa using hset S _ _ _ _ h6 d⟩ hno
 exact k _ _ S ⟨st.ext.step g1 (fun c hc=>st.own.1.2 c hc),g2,g3,st.facts⟩
def aw{r:Rp α}:fa r 0 r (fun _ y=>y):=fun S cs x ds y Y X=>by
 have hl:=r.len Y
 simpa [<-hl] using X
end
section
variable{ty:TypeId}
def Gb{sz b o:Nat}{p:Operand}(hf:bK E.P T i=some (off,sz))(h0:Nat.beq sz 0=false)(hp:aJ E.N G p (Z (M b o))):cu E O G ⟨dst,.fieldAddr T p i,ty,pos,after,g⟩ (Z (M b (o+off))):=
 .of_pure fun a w S _ _ hF=>by
  have Y:a.eval p=M b o:=hp S a hF
  obtain⟨fs,f,e1,e2,e3,e4⟩:=GY hf
  have h0' :sz≠0:=fun e=>by subst e;simp at h0
  refine⟨M b (o+off),?_,rfl⟩
  simp [execOp,Y,M,Instr.fieldAt,jt e1,e2,Instr.sureAddr,fieldPlace,e4,h0',e3,jq]
def aE{r:Rp α}{get:α->β}{x:α}{b sz:Nat}{agg:Bool}{p:Operand}(ti:TI E.P U sz bytes agg z)(hsz:q.sz=sz)(hag:q.agg=agg)(hget:lH r off q get)(hm:Q r T b x∈O)(hp:aJ E.N G p (Z (M b off))):
  cu E O G ⟨dst,.load U p,ty,pos,after,g⟩ (tD q (get x)):=
 .of_pure fun a w S _ ho hf=>by
  have Y:a.eval p=M b off:=hp S a hf
  obtain⟨⟨_,cur,h5,h6⟩,_⟩:=ho.mem _ hm
  have h7:=hget S _ _ h6
  refine⟨_,?_,_,rfl,h7⟩
  simp [execOp,Y,M,Instr.loadAt,Instr.sureAddr,lh ti h5 hsz hag h7]
def bo{r:Rp α}:lH r 0 r (fun x=>x):=fun S cs x h=>by
 have hl:=r.len h
 simpa [<-hl] using h
end
end
end Go.Proofs.YtdohlidddcgfjaaGreat

