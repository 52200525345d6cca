/- de of this claim: W1, W49, W2, W3, W4, W5, W6, W7, W8, W9, W10, W11. -/
import Derived.WalkKit
import Derived.Orders
import Derived.Shelf.Unicode.CaseTo
import Derived.Shelf.Unicode.DecodeSlow
import Derived.Lone
import Derived.RunT
import Derived.Calls
import Derived.RangeFuncIn
import Derived.TacticsIn
import Derived.OrdersIn
import Derived.LoopIn
import Derived.Laws.AppendOwn
import Derived.Deep.Upon
import Derived.Lib.AppendStr
import Derived.IntWalk
set_option linter.all false
namespace Go.Proofs.YtigldkegamffhaaGreatDoor
open Go
def aV:= @Option.bind_some
def bm:= @if_neg
def bv:= @if_pos
def li:= @List.mem_cons_of_mem
def gu:= @Nat.le_refl
def o5:= @List.getElem?_eq_some_iff
def lg:= @List.mem_cons_self
def qf:= @List.getElem?_eq_getElem
def mo:= @decide_eq_true_eq
def gA:= @List.length_append
def gI:= @List.append_assoc
def gQ:= @Bool.and_eq_true
def f7:= @List.mem_cons
def iZ:= @List.length_cons
def lh:= @Bool.false_eq_true
def jx:= @run_underlying
def o7:= @decide_eq_false_iff_not
def oB:= @List.take_of_length_le
def o6:= @List.drop_of_length_le
def rn:= @List.drop_eq_getElem_cons
def pF:= @Nat.eq_of_beq_eq_true
def mZ:= @List.all_eq_true
def jv:= @Nat.zero_le
def ra:= @List.take_append_drop
def nR:= @Option.some.inj
def rm:= @Nat.le_of_ble_eq_true
def wA:= @List.eq_nil_of_length_eq_zero
def yc:= @List.take_append_of_le_length
def vZ:= @List.getElem?_append_right
def lZ:= @Nat.lt_or_ge
def sR:= @List.mem_of_getElem?
def pe:= @List.nil_append
def nA:= @Nat.le_trans
def jB:= @if_false
def sq:= @Result.andThen_ok
def i8:= @if_true
def qi:= @decide_eq_true
def qh:= @List.drop_zero
def rk:= @List.length_nil
def pE:= @List.map_cons
def Bb:= @Array.getElem?_eq_some_iff
def yb:= @List.length_singleton
def qg:= @Bool.not_true
def sO:= @decide_eq_false
def Ba:= @Array.getElem?_replicate
def ya:= @Nat.mul_le_mul_right
def Cf:= @List.getElem?_append_left
def wz:= @List.getElem?_drop
def sn:= @List.all_cons
def qZ:= @Sem.run_bind
def qY:= @List.mem_map
def rj:= @Nat.zero_add
def wy:= @Int.toNat_natCast
def uk:= @List.drop_drop
def DA:= @List.getElem?_take_of_lt
def vW:= @List.length_set
def vV:= @Bool.eq_iff_iff
def yn:= @Bool.not_eq_true'
def xZ:= @List.cons_append
def vG:= @Bool.true_and
def ym:= @List.length_take
def xY:= @Bool.or_eq_true
def A9:= @List.mem_singleton
def Ap:= @decide_eq_decide
def Ao:= @IntKind.wrap_i64
def Cd:= @Stepped.next.injEq
def JZ:= @Array.getD_eq_getD_getElem?
def Fo:= @Array.length_toList
def A7:= @Nat.min_eq_left
def A6:= @List.mem_append
def NF:= @List.take_succ_eq_append_getElem
def Dz:= @List.getElem?_map
def F4:= @List.mem_append_left
def Iq:= @List.singleton_append
def Ip:= @List.getElem?_eq_none
def Cb:= @List.length_map
def Ca:= @List.append_nil
def Dy:= @Bool.not_eq_true
def An:= @Bool.false_or
def Am:= @getD_set_true
def Dx:= @List.any_eq_true
def ND:= @List.drop_append_of_le_length
def xX:= @Nat.add_mul
def B0:= @List.take_take
def A5:= @List.any_cons
def Fn:= @List.length_drop
def yv:= @Option.some.injEq
def v8:= @Bool.not_false
def Ci:= @Bool.or_eq_false_iff
def ET:= @MapKept.run_getObj_map
def su:= @bne_iff_ne
def sr:= @Nat.blt_eq
def AB:= @beq_self_eq_true
def ES:= @Bool.and_eq_true_iff
def AA:= @List.take_length
def tg:= @beq_iff_eq
def yq:= @List.drop_take
def Ch:= @List.getElem_mem
def Gc:= @List.drop_eq_nil_iff
def Az:= @heap_alloc_new
def IT:= @List.getElem?_cons_zero
def EQ:= @List.size_toArray
def um:= @mem_ready
def xE:= @getD_set_ne
def yp:= @Prod.mk.inj
def EO:= @List.map_append
def EN:= @Option.map_some
def Ga:= @List.ext_getElem?
def Cg:= @List.cons.inj
def Ls:= @List.getElem?_set_self
def Qg:= @List.idxOf_lt_length_of_mem
def IR:= @Nat.lt_of_lt_of_le
def ul:= @Iff.rfl
def Lr:= @List.contains_iff_mem
def EM:= @Prod.mk.injEq
def IQ:= @Bool.eq_false_iff
def EL:= @Nat.sub_self
def EK:= @Sem.run_pure
def EJ:= @Int.ofNat_lt
def EI:= @Sem.runT_fst
def EH:= @List.map_nil
def EG:= @Nat.succ_mul
def EF:= @Nat.le_of_eq
def Lq:= @List.map_congr_left
def Lp:= @beq_eq_false_iff_ne
def Qf:= @List.mem_singleton_self
def IP:= @List.nodup_cons
def Qe:= @Array.toList_replicate
def Qd:= @MapKept.run_setObj_map
def Qc:= @Option.map_eq_some_iff
def Qb:= @List.drop_eq_nil_of_le
def Qa:= @Array.getElem?_toList
def PZ:= @List.mem_append_right
def PY:= @List.countP_replicate
def F6:= @Nat.add_zero
def PX:= @MapKept.run_checkKey
def PW:= @List.getElem?_set_ne
def F5:= @Nat.mul_one

def Io:Obj->Obj->Prop
 | .cells c E fr,o' => ∃aN:List Value,o' = .cells (c.toList++aN).toArray E fr
 |o,o' =>o' =o
variable{o:Oper}
def wi(o:Obj):Io o o:=by
 cases o<;>first|rfl|exact⟨[],by simp⟩
variable{c:Code}{cells:List Value}{aN:Nat}{fr:Nat×Nat}{k:Nat}{o' :Obj}
def Jg{o o'' :Obj}(h:Io o o')(k:Io o' o''):Io o o'' :=by
 cases o with
 |cells c E fr=>
  obtain⟨aN,rfl⟩:=h
  obtain⟨d',rfl⟩:=k
  exact⟨aN++d',by simp⟩
 |_=>cases h;exact k
variable{off:Nat}
def G5{c:Array Value}{E:TypeId}(h:Io (.cells c E fr) o'){n:Nat}(hl:((c.toList.drop off).take n).length=n):
  ∃c',o' = .cells c' E fr/\(c'.toList.drop off).take n=(c.toList.drop off).take n:=by
 obtain⟨aN,rfl⟩:=h
 refine⟨_,rfl,?_⟩
 by_cases hn:n=0
 ·subst hn;simp
 simp only [ym,Fn]at hl
 rw [ND (by omega),yc (by simp only [Fn];omega)]
abbrev SH:=Nat->Option Obj
def qT(S S' :SH):Prop:= ∀b o,S b=some o-> ∃o',S' b=some o' /\Io o o'
variable{S:SH}
def SH.le_refl(S:SH):qT S S:=fun _ o h=>⟨o,h,wi o⟩
variable{S' S'' :SH}{b:Bool}{e:TypeId}
def SH.le_trans(h:qT S S')(k:qT S' S''):qT S S'' :=fun b o e=>let⟨o',A,V⟩:=h b o e;let⟨o'',h3,h4⟩:=k b o' A;⟨o'',h3,Jg V h4⟩
structure Ty where
 p:SH->Value->Prop
 mono: ∀{S S' :SH} {v:Value},qT S S' ->p S v->p S' v

structure Rp(α:Type) where
 sz:Nat
 agg:Bool
 rc:SH->List Value->α->Prop
 mono: ∀{S S' :SH} {cs:List Value} {x:α},qT S S' ->rc S cs x->rc S' cs x
 len: ∀{S:SH} {cs:List Value} {x:α},rc S cs x->cs.length=sz
 one: ∀{S:SH} {cs:List Value} {x:α},rc S cs x-> ∀c∈cs,c.oneCell' =true
 sc:agg=false->sz=1

def Rp.val{α:Type}(r:Rp α)(cs:List Value):Value:=if r.agg then .agg cs.toArray else cs.headD undef

def K{α:Type}(r:Rp α)(x:α):Ty where
 p:=fun S v=> ∃cs,v=r.val cs/\r.rc S cs x
 mono:=fun h ⟨cs,e,k⟩=>⟨cs,e,r.mono h k⟩

def tw:Ty where
 p:=fun _ _=>True
 mono:=fun _ _=>trivial

def Z(u:Value):Ty where
 p:=fun _ v=>v=u
 mono:=fun _ h=>h

def rI(k:IntKind):Rp Int where
 sz:=1
 agg:=false
 rc:=fun _ cs x=>cs=[.int k x]
 mono:=fun _ h=>h
 len:=fun h=>by rw [h];rfl
 one:=fun h c hc=>by subst h;simp at hc;subst hc;rfl
 sc:=fun _=>rfl

def rB:Rp Bool where
 sz:=1
 agg:=false
 rc:=fun _ cs x=>cs=[.bool x]
 mono:=fun _ h=>h
 len:=fun h=>by rw [h];rfl
 one:=fun h c hc=>by subst h;simp at hc;subst hc;rfl
 sc:=fun _=>rfl

abbrev cj:=List UInt8
def rS:Rp cj where
 sz:=1
 agg:=false
 rc:=fun _ cs x=>cs=[.string ⟨x.toArray⟩]
 mono:=fun _ h=>h
 len:=fun h=>by rw [h];rfl
 one:=fun h c hc=>by subst h;simp at hc;subst hc;rfl
 sc:=fun _=>rfl

variable{cs:List Value}{v:Value}
def f8{k:IntKind}{n:Int}:(K (rI k) n).p S v↔v= .int k n:=by
 constructor
 ·rintro⟨cs,rfl,h⟩;have h' :cs=[.int k n]:=h;subst h';rfl
 ·rintro rfl;exact⟨[.int k n],rfl,rfl⟩
def jy:(K rB b).p S v↔v= .bool b:=by
 constructor
 ·rintro⟨cs,rfl,h⟩;have h' :cs=[.bool b]:=h;subst h';rfl
 ·rintro rfl;exact⟨[.bool b],rfl,rfl⟩
variable{α:Type}{s:Sem α}
def uv{s:cj}:(K rS s).p S v↔v= .string ⟨s.toArray⟩:=by
 constructor
 ·rintro⟨cs,rfl,h⟩;have h' :cs=[.string ⟨s.toArray⟩]:=h;subst h';rfl
 ·rintro rfl;exact⟨[.string ⟨s.toArray⟩],rfl,rfl⟩

def qc{α:Type}(r:Rp α)(S:SH):List Value->List α->Prop
 |cs,[]=>cs=[]
 |cs,x::xs=> ∃a b,cs=a++b/\r.rc S a x/\qc r S b xs
variable{a:Act}{xs:List α}
def sB{α:Type}{r:Rp α}{S S' :SH}(h:qT S S'): ∀{xs:List α} {cs:List Value},qc r S cs xs->qc r S' cs xs
 |[],_,k=>k
 |_::_,_,⟨a,b,e,A,V⟩=>⟨a,b,e,r.mono h A,sB h V⟩
variable{x:Operand}
def lx{α:Type}{r:Rp α}{S:SH}: ∀{xs:List α} {cs:List Value},qc r S cs xs->cs.length=xs.length*r.sz
 |[],_,k=>by rw [show _=_ from k];simp
 |x::xs,_,⟨a,b,e,A,V⟩=>by rw [e,gA,r.len A,lx V,iZ,xX];omega
def CH{α:Type}{r:Rp α}{S:SH}: ∀{xs:List α} {cs:List Value},qc r S cs xs-> ∀c∈cs,c.oneCell' =true
 |[],_,k,c,hc=>by rw [show _=_ from k]at hc;cases hc
 |x::xs,_,⟨a,b,e,A,V⟩,c,hc=>by
  rw [e]at hc
  rcases A6.1 hc with h|h
  ·exact r.one A c h
  ·exact CH V c h
variable{ys:List α}
def uE{α:Type}{r:Rp α}{S:SH}: ∀{xs ys:List α} {cs ds:List Value},qc r S cs xs->qc r S ds ys->qc r S (cs++ds) (xs++ys)
 |[],_,_,_,k,h=>by rw [show _=_ from k];exact h
 |_::_,_,_,_,⟨a,b,e,A,V⟩,h=>⟨a,_,by rw [e,gI],A,uE V h⟩
def pZ{α:Type}{r:Rp α}{S:SH}: ∀{xs ys:List α} {cs:List Value},qc r S cs (xs++ys)->
  qc r S (cs.take (xs.length*r.sz)) xs/\qc r S (cs.drop (xs.length*r.sz)) ys
 |[],_,_,k=>by simp [qc];exact k
 |x::xs,ys,cs,⟨a,b,e,A,V⟩=>by
  have hl:=r.len A
  have ih:=pZ V
  have e1:(x::xs).length*r.sz=a.length+xs.length*r.sz:=by rw [hl,iZ,xX];omega
  rw [e,e1,List.take_length_add_append,List.drop_length_add_append]
  exact⟨⟨a,_,rfl,A,ih.1⟩,ih.2⟩
def Ot{r:Rp α}{x:α}:qc r S cs [x]↔r.rc S cs x:=by
 constructor
 ·rintro⟨a,b,rfl,h,H⟩
  rw [show b=[]from H,Ca];exact h
 ·intro h;exact⟨cs,[],by simp,h,rfl⟩
variable{i:Nat}
def wQ{r:Rp α}(h:qc r S cs xs){x:α}(D:xs[i]? =some x):
  r.rc S ((cs.drop (i*r.sz)).take r.sz) x:=by
 have hi:i<xs.length:=(o5.1 D).1
 have e:xs=xs.take i++(x::xs.drop (i+1)):=by
  have:=o5.1 D
  rw [<-this.2,<-rn hi,ra]
 have hl:(xs.take i).length=i:=by simp;omega
 rw [e]at h
 have V:=(pZ h).2
 rw [hl]at V
 obtain⟨a,b,e2,h3,_⟩:=V
 rw [e2,<-r.len h3,List.take_left]
 exact h3

def LF{α:Type}(r:Rp α)(S:SH)(a:Option Addr)(xs:List α):Prop:=
 xs=[]\/ ∃b off c E fr,a=some ⟨b,off,none⟩/\S b=some (.cells c E fr)/\qc r S ((c.toList.drop off).take (xs.length*r.sz)) xs
def fJ{α:Type}(r:Rp α):Rp (List α) where
 sz:=1
 agg:=false
 rc:=fun S cs xs=> ∃a cap,cs=[.slice a xs.length cap]/\xs.length<=cap/\cap<=maxLen/\LF r S a xs
 mono:=fun h ⟨a,cap,e,A,V,h3⟩=>⟨a,cap,e,A,V,h3.imp id fun⟨b,off,c,E,fr,e1,e2,e3⟩=>by
  obtain⟨o',h4,h5⟩:=h _ _ e2
  obtain⟨c',rfl,h6⟩:=G5 h5 (lx e3)
  exact⟨b,off,c',E,fr,e1,h4,by rw [h6];exact sB h e3⟩⟩
 len:=fun⟨a,cap,e,_⟩=>by rw [e];rfl
 one:=fun⟨a,cap,e,_⟩ c hc=>by rw [e]at hc;simp at hc;subst hc;rfl
 sc:=fun _=>rfl
variable{cap:Nat}
def m4{r:Rp α}:(K (fJ r) xs).p S v↔ ∃a cap,v= .slice a xs.length cap/\xs.length<=cap/\cap<=maxLen/\LF r S a xs:=by
 constructor
 ·rintro⟨cs,rfl,a,cap,rfl,h⟩;exact⟨a,cap,rfl,h⟩
 ·rintro⟨a,cap,rfl,h⟩;exact⟨_,rfl,a,cap,rfl,h⟩
def Cr{r:Rp α}:(K (fJ r) []).p S (.slice none 0 0):=m4.2 ⟨none,0,rfl,gu _,jv _,.inl rfl⟩

def bt{α:Type}(r:Rp α)(x:α):Ty where
 p:=fun S v=> ∃b off c E fr,v= .pointer (some ⟨b,off,none⟩)/\S b=some (.cells c E fr)/\r.rc S ((c.toList.drop off).take r.sz) x
 mono:=fun h ⟨b,off,c,E,fr,e1,e2,e3⟩=>by
  obtain⟨o',h4,h5⟩:=h _ _ e2
  obtain⟨c',rfl,h6⟩:=G5 h5 (r.len e3)
  exact⟨b,off,c',E,fr,e1,h4,by rw [h6];exact r.mono h e3⟩

def glob:List (Nat×List Value):=[(0,[.string ⟨([98,111,111,108]:List UInt8).toArray⟩,.int .i64 (1),.string ⟨([105,110,116]:List UInt8).toArray⟩,.int .i64 (2),.string ⟨([116,101,120,116]:List UInt8).toArray⟩,.int .i64 (3)]),(1,[.string ⟨([83,69,76,69,67,84]:List UInt8).toArray⟩,.string ⟨([68,73,83,84,73,78,67,84]:List UInt8).toArray⟩,.string ⟨([70,82,79,77]:List UInt8).toArray⟩,.string ⟨([76,69,70,84]:List UInt8).toArray⟩,.string ⟨([74,79,73,78]:List UInt8).toArray⟩,.string ⟨([79,78]:List UInt8).toArray⟩,.string ⟨([87,72,69,82,69]:List UInt8).toArray⟩,.string ⟨([71,82,79,85,80]:List UInt8).toArray⟩,.string ⟨([66,89]:List UInt8).toArray⟩,.string ⟨([72,65,86,73,78,71]:List UInt8).toArray⟩,.string ⟨([85,78,73,79,78]:List UInt8).toArray⟩,.string ⟨([65,76,76]:List UInt8).toArray⟩,.string ⟨([79,82,68,69,82]:List UInt8).toArray⟩,.string ⟨([76,73,77,73,84]:List UInt8).toArray⟩,.string ⟨([65,83,67]:List UInt8).toArray⟩,.string ⟨([68,69,83,67]:List UInt8).toArray⟩,.string ⟨([65,83]:List UInt8).toArray⟩,.string ⟨([65,78,68]:List UInt8).toArray⟩,.string ⟨([79,82]:List UInt8).toArray⟩,.string ⟨([78,79,84]:List UInt8).toArray⟩,.string ⟨([73,83]:List UInt8).toArray⟩,.string ⟨([78,85,76,76]:List UInt8).toArray⟩,.string ⟨([84,82,85,69]:List UInt8).toArray⟩,.string ⟨([70,65,76,83,69]:List UInt8).toArray⟩,.string ⟨([67,79,85,78,84]:List UInt8).toArray⟩,.string ⟨([83,85,77]:List UInt8).toArray⟩,.string ⟨([77,73,78]:List UInt8).toArray⟩,.string ⟨([77,65,88]:List UInt8).toArray⟩])]
def RU(w:World):Prop:=Lib.CaseVar 2 Lib.caseA w/\Lib.Utf8Tabs 4 5 w
structure lV(w:World)(S:SH):Prop where
 at_: ∀b o,S b=some o-> ∃o',w.heap[b]? =some o' /\Io o o'
 gl: ∀p∈glob,∃c T fr,S p.1=some (.cells c T fr)/\c.toList.take p.2.length=p.2
 tb: ∀w' :World,(∀b o,S b=some o-> ∃o',w'.heap[b]? =some o' /\Io o o')->RU w'
instance{w:World}{S:SH}:CoeFun (lV w S) (fun _=> ∀b o,S b=some o-> ∃o',w.heap[b]? =some o' /\Io o o'):=⟨lV.at_⟩
variable{w:World}
def lV.tab(h:lV w S):RU w:=h.tb w h.at_
def lV.lt(h:lV w S){b:Nat}{o:Obj}(k:S b=some o):b<w.heap.size:=let⟨_,A,_⟩:=h b o k;(Bb.1 A).1
def lV.part(h:lV w S){b:Nat}{c:Array Value}{E:TypeId}(k:S b=some (.cells c E fr)){n:Nat}(hl:((c.toList.drop off).take n).length=n):
  ∃c',w.heap[b]? =some (.cells c' E fr)/\(c'.toList.drop off).take n=(c.toList.drop off).take n:=by
 obtain⟨o',A,V⟩:=h b _ k
 obtain⟨c',rfl,h3⟩:=G5 V hl
 exact⟨c',A,h3⟩
variable{w' :World}
def lV.same(h:lV w S)(k: ∀b o,S b=some o->w'.heap[b]? =w.heap[b]?):lV w' S:=⟨fun b o e=>by rw [k b o e];exact h b o e,h.gl,h.tb⟩

def uc:Nat->Prop:=fun _=>False
structure kx(B:Nat->Prop)(w:World)(S:SH)(w' :World)(S' :SH):Prop where
 os:w'.os=w.os
 tape:w'.tape=w.tape
 output:w'.output=w.output
 drawn:w.drawn<=w'.drawn
 size:w.heap.size<=w'.heap.size
 heap: ∀k,k<w.heap.size-> ¬B k->w'.heap[k]? =w.heap[k]?
 keep:qT S S'
 old: ∀k,k<w.heap.size-> ¬B k->S' k=S k
def kx.refl(B:Nat->Prop)(w:World)(S:SH):kx B w S w S:=⟨rfl,rfl,rfl,gu _,gu _,fun _ _ _=>rfl,SH.le_refl _,fun _ _ _=>rfl⟩
variable{w'' :World}
def kx.trans{B:Nat->Prop}(h:kx B w S w' S')(k:kx B w' S' w'' S''):kx B w S w'' S'' :=
 ⟨k.os.trans h.os,k.tape.trans h.tape,k.output.trans h.output,nA h.drawn k.drawn,nA h.size k.size,
  fun i hi H=>(k.heap i (IR hi h.size) H).trans (h.heap i hi H),SH.le_trans h.keep k.keep,
  fun i hi H=>(k.old i (IR hi h.size) H).trans (h.old i hi H)⟩
variable{C:Nat->Prop}
def kx.step{B:Nat->Prop}(h:kx B w S w' S')(k:kx C w' S' w'' S'')(hC: ∀b,C b->w.heap.size<=b\/B b):kx B w S w'' S'' :=
 ⟨k.os.trans h.os,k.tape.trans h.tape,k.output.trans h.output,nA h.drawn k.drawn,nA h.size k.size,
  fun i hi H=>(k.heap i (IR hi h.size) (fun hc=>(hC i hc).elim (fun h=>by omega) H)).trans (h.heap i hi H),SH.le_trans h.keep k.keep,
  fun i hi H=>(k.old i (IR hi h.size) (fun hc=>(hC i hc).elim (fun h=>by omega) H)).trans (h.old i hi H)⟩
def kx.more{B:Nat->Prop}(h:kx B w S w' S')(k: ∀b,B b->C b):kx C w S w' S' :=
 ⟨h.os,h.tape,h.output,h.drawn,h.size,fun i hi H=>h.heap i hi (fun h=>H (k i h)),h.keep,fun i hi H=>h.old i hi (fun h=>H (k i h))⟩
def kx.step0{B:Nat->Prop}(h:kx B w S w' S')(k:kx uc w' S' w'' S''):kx B w S w'' S'' :=h.step k fun _ H=>H.elim

structure OE where
 fp:Nat->Prop
 p:World->SH->Prop
 here: ∀{w S},p w S-> ∀k,fp k->k<w.heap.size
 kept: ∀{C w w' S S'},p w S->kx C w S w' S' ->(∀k,fp k-> ¬C k)->p w' S'
def OE.holds(e:OE)(base:Nat)(B:Nat->Prop)(w:World)(S:SH):Prop:=e.p w S/\ ∀k,e.fp k->base<=k\/B k
def OE.apart(e f:OE):Prop:= ∀b,e.fp b-> ¬f.fp b
def du(base:Nat)(B:Nat->Prop)(w:World)(S:SH):List OE->Prop
 |[]=>True
 |e::O=>e.holds base B w S/\(∀f∈O,e.apart f)/\du base B w S O
def Lm{e:OE}{base:Nat}{B:Nat->Prop}(h:e.holds base B w S)(k:kx C w S w' S')(hC: ∀b,e.fp b-> ¬C b):e.holds base B w' S' :=⟨e.kept h.1 k hC,h.2⟩
variable{O:List OE}{f:FuncId}
def du.ext{base:Nat}{B:Nat->Prop}(k:kx C w S w' S'): ∀{O:List OE},du base B w S O->(∀e∈O,∀b,e.fp b-> ¬C b)->du base B w' S' O
 |[],_,_=>trivial
 |e::_,⟨A,V,h3⟩,hC=>⟨Lm A k (hC e (lg ..)),V,du.ext k h3 fun f hf=>hC f (li _ hf)⟩
def du.ext0{base:Nat}{B:Nat->Prop}(k:kx uc w S w' S')(h:du base B w S O):du base B w' S' O:=
 h.ext k fun _ _ _ _ H=>H
def du.mem{base:Nat}{B:Nat->Prop}: ∀{O:List OE},du base B w S O-> ∀e∈O,e.holds base B w S
 |_::_,⟨A,_,_⟩,_,.head _=>A
 |_::_,⟨_,_,h3⟩,_,.tail _ hm=>du.mem h3 _ hm

abbrev lY:=List (Nat×Ty)
def look:lY->Nat->Option Ty
 |[],_=>none
 |(k,t)::G,j=>bif Nat.beq k j then some t else look G j
structure Fr where
 n:Nat
 ds:List Deferred
structure de(N:Fr)(S:SH)(a:Act)(G:lY):Prop where
 size:a.tmps.size=N.n
 defers:a.defers=N.ds
 at_: ∀k t,look G k=some t->t.p S (a.tmps.getD k undef)
variable{G:lY}{j:Nat}{t:Ty}
def de.mono{N:Fr}(h:de N S a G)(k:qT S S'):de N S' a G:=⟨h.size,h.defers,fun j t e=>t.mono k (h.at_ j t e)⟩
def de.sub{N:Fr}{G' :lY}(h:de N S a G)(k: ∀j t,look G' j=some t->look G j=some t):de N S a G' :=⟨h.size,h.defers,fun j t e=>h.at_ j t (k j t e)⟩
variable{u:OE}
def de.put{N:Fr}(h:de N S a G)(hd:Nat.blt aN N.n=true)(hv:t.p S v):de N S (a.put (some aN) v) ((aN,t)::G):=by
 have hd' :aN<N.n:=by simpa [sr] using hd
 refine⟨by simp [Act.put,h.size],h.defers,fun j u e=>?_⟩
 unfold look at e
 by_cases hj:aN=j
 ·subst hj
  have e' :t=u:=by simpa using e
  rw [e']at hv
  simp [Act.put,JZ,h.size,hd',hv]
 ·have H:Nat.beq aN j=false:=by cases hh:Nat.beq aN j with
   |false=>rfl
   |true=>exact absurd (pF hh) hj
  rw [H]at e
  have:=h.at_ j u e
  simpa [Act.put,JZ,Array.getElem?_setIfInBounds,hj] using this
def RW:lY->lY->Prop
 |[],_=>True
 |(k,t)::G',G=>look G k=some t/\RW G' G
def I0: ∀{G' G:lY},RW G' G-> ∀j t,look G' j=some t->look G j=some t
 |(k,t)::G',G,⟨A,V⟩,j,u,e=>by
  unfold look at e
  by_cases H:Nat.beq k j=true
  ·rw [H]at e
   have:=pF H
   subst this
   simp only [cond_true]at e
   rw [<-e];exact A
  ·rw [Dy]at H
   rw [H]at e
   exact I0 V j u e

def aL(N:Fr)(G:lY)(x:Operand)(t:Ty):Prop:= ∀S a,de N S a G->t.p S (a.eval x)
def M{N:Fr}(h:look G k=some t):aL N G (.tmp k) t:=fun _ _ hF=>hF.at_ k t h
def hI{N:Fr}{k:IntKind}{n:Int}:aL N G (.const (.int k n)) (K (rI k) n):=fun _ _ _=>f8.2 rfl
def hB{N:Fr}:aL N G (.const (.bool b)) (K rB b):=fun _ _ _=>jy.2 rfl
def hS{N:Fr}{s:Array UInt8}:aL N G (.const (.string ⟨s⟩)) (K rS s.toList):=fun _ _ _=>uv.2 rfl
def aaZ{N:Fr}{r:Rp α}:aL N G (.const (.slice none 0 0)) (K (fJ r) []):=fun _ _ _=>Cr
def hV{N:Fr}:aL N G (.const v) (Z v):=fun _ _ _=>rfl

variable{R:Ending->World->Prop}{args:α->List Ty}{bytes:Nat}{done:Array Bool}{es:Array Event}{g:Option (Nat×Bool)}{gs:Nat}{l:Option Nat}{m m' :Machine}{ops:Array Oper}{q:Bool}{rest:List Oper}
section
variable{P:Program}
def wOf{α:Type}:Result α->World
 | .ok _ w=>w
 | .halt _ w=>w
def KL(w:World)(a:Addr)(n:Nat):(w.freeze a n).drawn=w.drawn:=by unfold World.freeze;split<;>rfl
def Fw{at_:Addr}{u:TypeId}{k:Addr}{x:Bool}{r:World×List Addr}(h:w.viewStore P at_ u k v x= .ok r):r.1.drawn=w.drawn:=by
 unfold World.viewStore at h
 simp only [bind,Except.bind,pure,Except.pure,throw,throwThe,MonadExceptOf.throw]at h
 repeat' (split at h)
 all_goals first
  |(cases h;done)
  |(cases h;rfl)
def HM{a:Addr}{x:Bool}{r:World×List Addr}(h:w.farStore P a v x= .ok r):r.1.drawn=w.drawn:=by
 unfold World.farStore at h
 split at h
 ·split at h
  ·rename_i V;cases h;exact Fw V
  ·cases h
 ·cases h
def EA{α:Type}: ∀(a:Ask α) (w:World),w.drawn<=(w.ask a).2.drawn
 | .done a,w=>gu _
 | .ask what range k,w=>by
  unfold World.ask
  simp only
  split
  ·exact EA (k 0) w
  ·exact nA (Nat.le_succ _) (EA (k ((Question.extern what range).cut (w.tape w.drawn (Question.extern what range)))) {w with drawn:=w.drawn+1})
def RV(w:World)(c:Sys):w.drawn<=(w.sys c).2.drawn:=by
 unfold World.sys
 have h:=EA (Kernel.perform c w.os) w
 split
 ·exact gu _
 ·rename_i V
  rw [V]at h
  exact h
def iN{α:Type}: ∀(s:Sem α) (w:World),w.drawn<=(wOf (s.run P w)).drawn
 | .pure a,w=>gu _
 | .load m a k,w=>by
  unfold Sem.run
  split
  ·exact iN _ w
  ·split
   ·exact iN _ w
   ·exact gu _
 | .store m a v k,w=>by
  have key:w.drawn<=(wOf (match w.cell? a with
   |some _=>if w.frozen? a then .halt (.unsupported (.unsafePointer "a write to bytes that a string shares")) w else k.run P (w.setCell a v)
   |none=>match w.farStore P a v (m== .atomic)with
    | .ok (w,_)=>k.run P w
    | .error h=> .halt h w)).drawn:=by
   split
   ·split
    ·exact gu _
    ·exact iN k (w.setCell a v)
   ·split
    ·rename_i w' l h
     have:=iN k w'
     rw [show w'.drawn=w.drawn from HM h]at this
     exact this
    ·exact gu _
  cases v<;>first|exact gu _|(simp only [Sem.run];exact key)
 | .new o k,w=>iN (k w.heap.size) {w with heap:=w.heap.push o}
 | .shape r k,w=>iN (k (w.shape? r)) w
 | .freeze a n k,w=>by
  have:=iN k (w.freeze a n)
  rw [KL]at this
  exact this
 | .frozen a k,w=>iN (k (w.frozen? a)) w
 | .getObj r k,w=>by
  unfold Sem.run
  split
  ·exact gu _
  ·exact iN _ w
  ·exact gu _
 | .setObj r o k,w=>by
  unfold Sem.run
  split
  ·exact gu _
  ·exact iN k {w with heap:=w.heap.setIfInBounds r o}
  ·exact gu _
 | .choose q k,w=>by
  unfold Sem.run
  split
  ·exact iN (k 0) w
  ·exact nA (Nat.le_succ _) (iN (k (q.cut (w.tape w.drawn q))) {w with drawn:=w.drawn+1})
 | .sys c k,w=>by
  exact nA (RV w c) (iN (k (w.sys c).1) (w.sys c).2)
 | .program k,w=>iN (k P) w
 | .mark m k,w=>iN k w
 | .halt h,w=>gu _
def dx{x:α}(h:s.run P w= .ok x w'):w.drawn<=w'.drawn:=by
 have:=iN (P:=P) s w
 rw [h]at this
 exact this
def oe{x:Halt}(h:s.run P w= .halt x w'):w.drawn<=w'.drawn:=by
 have:=iN (P:=P) s w
 rw [h]at this
 exact this
def Su{x:α}{es' :Array Event}(h:s.runT P w es=(.ok x w',es')):w.drawn<=w'.drawn:=
 dx (P:=P) (s:=s) (x:=x) (by rw [<-EI P s w es,h])
def My{x:Halt}{es' :Array Event}(h:s.runT P w es=(.halt x w',es')):w.drawn<=w'.drawn:=
 oe (P:=P) (s:=s) (x:=x) (by rw [<-EI P s w es,h])
def Fv{rest:Rest}{cases:Array CommCase}(h:waitingAt rest cases w=some w'):w'.drawn=w.drawn:=by
 unfold waitingAt at h
 repeat' (split at h)
 all_goals (cases h;try rfl)
def Dd(rest:Rest)(gs:Array Goroutine)(i:Nat)(g:Goroutine)(cases:Array CommCase)(blocking:Bool)
  (shape:CommShape)(w:World)(m' :Machine)(h:(communicate P rest gs i g cases blocking shape w).1= .next m'):w.drawn<=m'.world.drawn:=by
 unfold communicate at h
 simp only []at h
 repeat' first
  |(simp at h;done)
  |(simp only [Cd]at h;subst h;(try dsimp only);exact gu _)
  |(simp only [Cd]at h;subst h;(try dsimp only);exact dx (by assumption))
  |(simp only [Cd]at h;subst h;(try dsimp only);exact EF (Fv (by assumption)).symm)
  |(simp only [Cd]at h;subst h;(try dsimp only);exact nA (dx (by assumption)) (dx (by assumption)))
  |(simp only [Cd]at h;subst h;(try dsimp only);exact nA (dx (by assumption)) (oe (by assumption)))
  |split at h
def He(gs:Array Goroutine)(rest:Rest)(w:World)(m' :Machine)
  (h:Go.look P gs rest w= .next m'):w.drawn<=m'.world.drawn:=by
 unfold Go.look at h
 simp only []at h
 repeat' first
  |(simp at h;done)
  |(simp only [Cd]at h;subst h;(try dsimp only);exact dx (by assumption))
  |split at h
def F2(aN:Nat):GStep->Prop
 | .go _ w _=>aN<=w.drawn
 | .comm _ _ _ _ w _=>aN<=w.drawn
 | .spawn _ _ w _=>aN<=w.drawn
 | .count _ w _=>aN<=w.drawn
 | .timer _ _ w _=>aN<=w.drawn
 | .alone _ _ w _=>aN<=w.drawn
 | .newcoro _ _ _ w _=>aN<=w.drawn
 | .coroswitch _ _ _ w _=>aN<=w.drawn
 | .collect _ w _=>aN<=w.drawn
 | .watch _ w _=>aN<=w.drawn
 | .ended _ _ _=>True
def rE{s:GStep}(h:F2 aN s):F2 aN (s.after es):=by cases s<;>exact h
def uL{e:Nat}{s:GStep}(h:F2 aN s)(k:e<=aN):F2 e s:=by
 cases s<;>first|exact nA k h|trivial
def Pq(aN:Nat)(w:World)(fd:Nat)(text:ByteArray)(o:Outcome):F2 aN (endWith w fd text o):=by
 unfold endWith
 repeat' split
 all_goals trivial
def Vu(fr:Frame)(ij:List ByteArray)(m:String)(whole:Bool)(w:World):F2 w.drawn (dieOf fr ij m whole w):=gu _
def vA(fr:Frame)(m:String)(w:World):F2 w.drawn (endThrow fr m w):=gu _
def zl(fr:Frame)(v:Value)(w:World):F2 w.drawn (endPrinting P fr v w):=by
 unfold endPrinting
 simp only []
 split
 ·exact gu _
 ·trivial
def Fj(fr:Frame)(callers:List Frame)(dying:Option Dying)(m:String)(w:World):F2 w.drawn (endFatal P fr callers dying m w):=by
 unfold endFatal
 simp only []
 split
 ·exact uL (Vu _ _ _ _ _) (dx (by assumption))
 ·trivial
 ·trivial
def NM(fr:Frame)(aN:Dying)(f:Fatal)(w:World):F2 w.drawn (writeOn P fr aN f w):=by
 unfold writeOn
 simp only []
 split
 ·trivial
 ·split
  ·exact Su (by assumption)
  ·exact My (by assumption)
  ·trivial
  ·trivial
def Z5(fr:Frame)(aN:Dying)(w:World):F2 w.drawn (die P fr aN w):=by
 unfold die
 simp only []
 split
 ·exact NM _ _ _ _
 ·split
  ·split
   ·exact gu _
   ·exact Pq _ _ _ _ _
  ·split
   ·exact gu _
   ·split
    ·exact dx (by assumption)
    ·trivial
   ·apply rE
    split
    ·exact dx (P:=P) (by rw [<-EI];assumption)
    ·exact dx (P:=P) (by rw [<-EI];assumption)
    ·trivial
    ·exact uL (zl _ _ _) (oe (P:=P) (by rw [<-EI];assumption))
    ·trivial
   ·trivial
def rD{x:α}(h:(s.runT P w es).1= .ok x w'):w.drawn<=w'.drawn:=dx (P:=P) (s:=s) (x:=x) (by rw [<-EI P s w es,h])
def vm{x:Halt}(h:(s.runT P w es).1= .halt x w'):w.drawn<=w'.drawn:=oe (P:=P) (s:=s) (x:=x) (by rw [<-EI P s w es,h])
def zn(main:Bool)(fr:Frame)(callers:List Frame)(dying:Option Dying)(v:Value)(w:World):F2 w.drawn (doReturn P main fr callers dying v w):=by
 unfold doReturn
 simp only []
 repeat' split
 all_goals first|exact gu _|trivial
def KI{c:Prop} [Decidable c]{a b:GStep}(ha:F2 aN a)(H:F2 aN b):F2 aN (if c then a else b):=by split<;>assumption
def FK(fr:Frame)(callers:List Frame)(dying:Option Dying)(aN:Deferred)(w:World):F2 w.drawn (callDeferred P fr callers dying aN w):=by
 unfold callDeferred
 simp only []
 refine KI trivial (rE ?_)
 split
 all_goals first
  |exact rD (by assumption)
  |exact vm (by assumption)
  |trivial
  |exact uL (Fj _ _ _ _ _) (vm (by assumption))
  |exact uL (vA _ _ _) (vm (by assumption))
  |(split<;>exact rD (by assumption))
def RN(main:Bool)(fr:Frame)(callers:List Frame)(dying:Option Dying)(w:World):F2 w.drawn (unwind P main fr callers dying w):=by
 unfold unwind
 simp only []
 split
 ·apply rE
  split
  ·exact rD (by assumption)
  ·trivial
 ·exact FK _ _ _ _ _
 ·split
  ·trivial
  ·split
   ·trivial
   ·split
    ·exact gu _
    ·split
     ·split
      ·exact gu _
      ·split
       ·exact dx (by assumption)
       ·trivial
       ·trivial
     ·split
      ·exact zl _ _ _
      ·trivial
  ·split
   ·exact zn _ _ _ _ _ _
   ·apply rE
    split
    ·exact uL (zn _ _ _ _ _ _) (rD (by assumption))
    ·trivial
    ·trivial
def Vr(fr:Frame)(callers:List Frame)(dying:Option Dying)(g:Nat)(w:World):F2 w.drawn (early P fr callers dying g w):=by
 have hn: ∀w1:World,w.drawn<=w1.drawn->F2 w.drawn (match w1.heap[g]? with
   |some (.pending c elem)=> .go {frame:=fr,callers,status:= .running,dying} {w1 with heap:=w1.heap.setIfInBounds g (.cells c elem)}
   |_=> .ended (.stuck "early: the variable does not wait" (fr.pos P)) w1):=fun w1 h=>by
  split
  ·exact h
  ·trivial
 unfold early
 simp only []
 repeat' first
  |trivial
  |exact hn _ (gu _)
  |exact gu _
  |exact hn _ (dx (by assumption))
  |exact dx (P:=P) (by assumption)
  |split
def zx(main:Bool)(listen:Bool)(fr:Frame)(callers:List Frame)(dying:Option Dying)(s:Sem Next)(w:World):F2 w.drawn (stepG.apply P listen fr callers dying s w):=by
  unfold stepG.apply
  simp only []
  apply rE
  have hr:(if listen=true then s.runT P w #[]else(s.run P w,#[])).1=s.run P w:=by
    split
    · exact EI _ _ _ _
    · rfl
  rw [hr]
  split
  all_goals first
    |exact dx (by assumption)
    |exact oe (by assumption)
    |trivial
    |exact uL (Fj _ _ _ _ _) (oe (by assumption))
    |exact uL (vA _ _ _) (oe (by assumption))
    |exact uL (Vr _ _ _ _ _) (oe (by assumption))
    | (repeat' split
       all_goals first
        |exact dx (by assumption)
        |exact uL (vA _ _ _) (dx (by assumption)))
def WA(main listen:Bool)(fr:Frame)(callers:List Frame)(dying:Option Dying)(w:World):F2 w.drawn (stepG.oper P listen fr callers dying w):=by
 unfold stepG.oper
 split
 ·trivial
 ·split
  ·exact zx main _ _ _ _ _ _
  ·exact zx main _ _ _ _ _ _
def Xs(main listen:Bool)(fr:Frame)(callers:List Frame)(dying:Option Dying)(w:World):F2 w.drawn (stepG.exec P main listen fr callers dying w):=by
 have leave: ∀(c:Prop) (_:Decidable c) (jump:Option Code),F2 w.drawn (match fr.roundOf with
   |none=>if c then GStep.go {frame:={fr with mode:= .returning},callers,status:= .running,dying} w else .ended (.stuck "exit, goto: no such block or label" (fr.pos P)) w
   |some l=>GStep.after (seen P fr.fn ((Instr.endRound l jump).runT P w #[]).2) (match ((Instr.endRound l jump).runT P w #[]).1 with
    | .ok v w=>doReturn P main fr callers dying v w
    | .halt _ w=> .ended (.stuck "range over a function: no such loop" (fr.pos P)) w)):=fun c _ jump=>by
  split
  ·exact KI (gu _) trivial
  ·apply rE
   split
   ·exact uL (zn _ _ _ _ _ _) (rD (by assumption))
   ·trivial
 unfold stepG.exec
 simp only []
 split
 all_goals first
  |exact leave _ _ _
  |exact gu _
  |exact zx main _ _ _ _ _ _
  |trivial
  |(split<;>first|exact gu _|trivial)
  |(cases h:exitTo _ _<;>first|exact gu _|exact leave _ _ _)
  |(cases h:gotoIn _ _<;>first|exact gu _|exact leave _ _ _)
  |(cases h:Extern.next _<;>first|trivial|exact zx main _ _ _ _ _ _)
  |(apply rE;split<;>first|trivial|exact rD (by assumption)|exact vm (by assumption)|exact uL (zx main _ _ _ _ _ _) (rD (by assumption)))
  |(refine KI (gu _) ?_;split<;>first|trivial|exact dx (by assumption))
  |(refine KI ?_ (gu _);exact WA main _ _ _ _ _)
  |skip
def TV(main listen:Bool)(g:Goroutine)(w:World):F2 w.drawn (stepG P main g w listen):=by
 unfold stepG
 simp only []
 split
 ·exact Z5 _ _ _
 ·exact Xs _ _ _ _ _ _
 ·exact RN _ _ _ _ _
def Is{op:TimerOp}(h:timerOp m op= .ok (v,m')):m.world.drawn<=m'.world.drawn:=by
 have hr: ∀(m0:Machine) (k:Nat) (t:Timer) (when_ period:Nat),(retime m0 k t when_ period).2.world.drawn=m0.world.drawn:=fun m0 k t a b=>by
  unfold retime drain
  cases t.chan with
  |none=>rfl
  |some c=>simp only [];split<;>rfl
 have ho: ∀{var:Addr} {m0:Machine},timerOp.opened m var=some m0->m0.world.drawn=m.world.drawn:=fun{var m0} h=>by
  unfold timerOp.opened at h
  repeat' (split at h)
  all_goals (cases h;try rfl)
 have hn: ∀{var:Addr} {m0:Machine} {f:Nat->Timer->Value×Machine} {r:Value×Machine},timerOp.named m0 var f= .ok r-> ∃k t,r=f k t:=fun{var m0 f r} h=>by
  unfold timerOp.named at h
  split at h
  ·cases h;exact⟨_,_,rfl⟩
  ·cases h
 unfold timerOp at h
 split at h
 ·repeat' (split at h)
  all_goals first
   |(cases h;exact gu _)
   |(cases h;done)
 ·obtain⟨k,t,e⟩:=hn h
  rw [show m' =(retime m k t 0 t.period).2 from congrArg Prod.snd e,hr]
  exact gu _
 ·split at h
  ·rename_i m0 hm0
   obtain⟨k,t,e⟩:=hn h
   rw [show m' =(retime m0 k t _ _).2 from congrArg Prod.snd e,hr,ho hm0]
   exact gu _
  ·cases h
 ·simp only [Except.ok.injEq,EM]at h
  rw [<-h.2]
  exact gu _
def MM{fr:Frame}{m:String}{g:Goroutine}(h:endThrow fr m w= .go g w' es):w.drawn<=w'.drawn:=by
 have:=vA fr m w
 rw [h]at this
 exact this
def Oi(m m' :Machine)(i:Nat)(b:Bool)(h:(runT P m i b).1= .next m'):m.world.drawn<=m'.world.drawn:=by
  simp only [runT]at h
  revert h
  generalize m.gs.swapAt! _ _=gg
  have hs:=TV (P:=P) (i==0) b gg.1 m.world
  revert hs
  generalize stepG P _ gg.1 m.world b=s
  intro hs h
  cases s<;>simp only []at h
  all_goals first
    |(simp at h;done)
    |exact nA hs (Dd _ _ _ _ _ _ _ _ _ h)
    |exact nA hs (He _ _ _ _ h)
    |(simp only [Cd]at h;subst h;exact hs)
    |(repeat' first
        |(simp at h;done)
        |(simp only [Cd]at h;subst h;exact hs)
        |(simp only [Cd]at h;subst h;exact nA hs (Is (by assumption)))
        |(simp only [Cd]at h;subst h;exact nA hs (MM (by assumption)))
        |split at h)
def LN(m m' :Machine)(k:Nat)(h:serve P m k= .next m'):m.world.drawn<=m'.world.drawn:=by
 unfold serve at h
 simp only []at h
 repeat' first
  |(simp at h;done)
  |(simp only [Cd]at h;subst h;exact gu _)
  |split at h
def M0(m m' :Machine)(ops:Array MemOp)(h:askOn P m= .machine (.next m') ops):m.world.drawn<=m'.world.drawn:=by
 unfold askOn at h
 simp only []at h
 repeat' first
  |(simp at h;done)
  |(simp only [Move.machine.injEq]at h;exact nA (dx (by assumption)) (LN _ _ _ h.1))
  |(simp only [Move.machine.injEq,Cd]at h;obtain⟨rfl,_⟩:=h;(try simp only [Machine.advanceTo]);exact dx (by assumption))
  |(simp only [Move.machine.injEq,Cd]at h;obtain⟨rfl,_⟩:=h;(try simp only [Machine.advanceTo]);exact nA (dx (by assumption)) (dx (by assumption)))
  |split at h
def Jm{gs:Array Goroutine}{rest:Rest}{t:Nat}{x:α}(h:s.run P (Machine.advanceTo {world:=w,gs:=gs,rest:=rest} t).world= .ok x w'):w.drawn<=w'.drawn:=by
 have:=dx h
 simpa only [Machine.advanceTo] using this
def Lf(m m' :Machine)(i:Nat)(h:askOn P m= .goroutine m' i):m.world.drawn<=m'.world.drawn:=by
  unfold askOn at h
  simp only []at h
  repeat' first
    |(simp at h;done)
    |(simp only [Move.goroutine.injEq]at h;rw [<-h.1];(try simp only [Machine.advanceTo]);first
        |exact dx (by assumption)
        |exact nA (dx (by assumption)) (dx (by assumption))
        |exact nA (dx (by assumption)) (nA (dx (by assumption)) (dx (by assumption)))
        |exact nA (dx (by assumption)) (nA (dx (by assumption)) (nA (dx (by assumption)) (dx (by assumption))))
        |exact nA (dx (by assumption)) (nA (dx (by assumption)) (Jm (by assumption)))
        |exact nA (dx (by assumption)) (nA (dx (by assumption)) (nA (Jm (by assumption)) (dx (by assumption)))))
    |split at h
def H6(m:Machine):(∃m₂:Machine,m.world.drawn<=m₂.world.drawn/\ask P m=askOn P m₂)\/(∃o w,ask P m= .machine (.ended o w) #[]):=by
 unfold ask
 by_cases hw:m.rest.watch=true
 ·rw [bv hw]
  cases hc:(choose (.extern "collector.look" 2)).run P m.world with
  |halt h w=>exact .inr ⟨_,_,rfl⟩
  |ok k world=>
   have e1:=dx hc
   rcases k with _|_|k
   ·exact .inl ⟨{m with world},e1,rfl⟩
   ·show(∃m₂:Machine,m.world.drawn<=m₂.world.drawn/\(match Go.look P m.gs m.rest world with| .next m=>askOn P m|e=>Move.machine e)=askOn P m₂)\/
     (∃o w,(match Go.look P m.gs m.rest world with| .next m=>askOn P m|e=>Move.machine e)= .machine (.ended o w) #[])
    cases hl:Go.look P m.gs m.rest world with
    |next m₂=>exact .inl ⟨m₂,nA e1 (He _ _ _ _ hl),rfl⟩
    |ended o w=>exact .inr ⟨o,w,rfl⟩
   ·exact .inl ⟨{m with world},e1,rfl⟩
 ·simp only [hw,lh,jB]
  exact .inl ⟨m,gu _,rfl⟩
def OL(m m' :Machine)(ops:Array MemOp)(h:move P m= .machine (.next m') ops):m.world.drawn<=m'.world.drawn:=by
 have ha: ∀m1:Machine,m1.world.drawn=m.world.drawn->ask P m1= .machine (.next m') ops->m.world.drawn<=m'.world.drawn:=fun m1 e h=>by
  rcases H6 (P:=P) m1 with⟨m₂,hs,he⟩|⟨o,w,he⟩
  ·rw [he]at h;rw [<-e];exact nA hs (M0 m₂ m' ops h)
  ·rw [he]at h;simp at h
 unfold move at h
 repeat' first
  |(simp at h;done)
  |(refine ha _ ?_ h;rfl)
  |split at h
def Mg(m m' :Machine)(i:Nat)(h:move P m= .goroutine m' i):m.world.drawn<=m'.world.drawn:=by
 have ha: ∀m1:Machine,m1.world.drawn=m.world.drawn->ask P m1= .goroutine m' i->m.world.drawn<=m'.world.drawn:=fun m1 e h=>by
  rcases H6 (P:=P) m1 with⟨m₂,hs,he⟩|⟨o,w,he⟩
  ·rw [he]at h;rw [<-e];exact nA hs (Lf m₂ m' i h)
  ·rw [he]at h;cases h
 unfold move at h
 repeat' first
  |(simp at h;done)
  |(refine ha _ ?_ h;rfl)
  |(simp only [Move.goroutine.injEq]at h;rw [<-h.1];exact gu _)
  |split at h
def N2(h:step P m= .next m'):m.world.drawn<=m'.world.drawn:=by
 simp only [step,stepT]at h
 split at h
 ·rename_i m₁ i hm
  exact nA (Mg m m₁ i hm) (Oi m₁ m' i _ h)
 ·rename_i s ops hm
  simp only []at h
  subst h
  exact OL m m' ops hm
def EW(h:Steps P m m'):m.world.drawn<=m'.world.drawn:=by
 obtain⟨n,hn⟩:=h
 induction n generalizing m with
 |zero=>simp only [runN,Cd]at hn;rw [hn];exact gu _
 |succ n ih=>
  simp only [runN]at hn
  split at hn
  ·rename_i m1 A
   exact nA (N2 A) (ih hn)
  ·rename_i D
   exact absurd hn (D _)
def MX{args:Array Value}(h:Calls P f args w R)(ho: ∀w',¬R .outgrown w'):Calls P f args w fun e w' =>R e w' /\w.drawn<=w'.drawn:=fun cs=>by
 obtain⟨e,w',fr,hr,hc,V⟩:=h cs
 refine⟨e,w',fr,⟨hr,?_⟩,hc,V⟩
 cases e with
 |outgrown=>exact absurd hr (ho w')
 |returned v=>exact EW (show Steps P _ _ from hc)
 |panicked c=>exact EW (show Steps P _ _ from hc)
end

def fw(r:Option Nat):Fence:={fn:=fun _=>True,depth:=none,alive:=false,round:=r}
def xu{r:Option Nat}{n:Nat}{P:Program}{args:Array Value}:CallsIn (fw r) n P f args w R↔Calls P f args w R:=callsIn_wide
def MD{r:Option Nat}{n:Nat}:(fw r).depth.isSome=true->1<=n:=fun h=>by cases h
structure En where
 P:Program
 N:Fr
 B:Nat->Prop
 w0:World
 S0:SH
 r:Option Nat
def En.base(E:En):Nat:=E.w0.heap.size

def YM(P:Program)(o:Oper)(a:Act)(tD:Act->World->Prop):Result Next->Prop
 | .ok (.value v) w' =>tD (a.put o.dst v) w'
 | .ok .skip w' =>tD (a.put o.dst undef) w'
 | .ok (.enter f args) w' =>Calls P f args w' fun e w'' => ∃v,e= .returned v/\tD (a.put o.dst v) w''
 | .ok (.round l f tmps assign body) w' =>RoundIn (fw none) 0 P l f tmps assign body w' fun e w'' => ∃v,e= .returned v/\tD (a.put o.dst v) w''
 |_=>False
def Ma(P:Program)(o:Oper)(a:Act)(w:World)(tD:Act->World->Prop):Prop:=(∀c,o.op≠ .defer c)/\YM P o a tD ((execOp a.eval o).run P w)
def Oj{r:Option Nat}{n:Nat}{P:Program}{l:Nat}{tmps:Array Value}{assign body:Code}(h:RoundIn (fw none) 0 P l f tmps assign body w R):RoundIn (fw r) n P l f tmps assign body w R:=
 ⟨trivial,fun c cs _=>h.2 c cs (fun _ hd=>by cases hd)⟩
variable{tD K' :Act->World->Prop}
def Up{P:Program}(hK: ∀a w,tD a w->K' a w){r:Result Next}(h:YM P o a tD r):YM P o a K' r:=by
 cases r with
 |ok n w=>
  cases n<;>simp only [YM]at h ⊢
  case value=>exact hK _ _ h
  case skip=>exact hK _ _ h
  case enter f args=>exact h.mono fun e w' ⟨v,he,hk⟩=>⟨v,he,hK _ _ hk⟩
  case round l f tmps assign body=>exact h.mono fun e w' ⟨v,he,hk⟩=>⟨v,he,hK _ _ hk⟩
 |halt x w=>simp only [YM]at h
def oK{P:Program}(hK: ∀a w,tD a w->K' a w)(h:Ma P o a w tD):Ma P o a w K' :=⟨h.1,Up hK h.2⟩
variable{af:Exit->Act->World->Prop}{β:Type}{res:β->Ty}
def lv{P:Program}{r:Option Nat}(hK: ∀a w,tD a w->K' a w)(h:Ma P o a w tD):o.wpIn (fw r) 0 P a w K' af:=by
 obtain⟨hd,h⟩:=h
 refine⟨fun _ _=>trivial,?_⟩
 rw [Oper.semAt_eq _ _ _ hd]
 generalize (execOp a.eval o).run P w=res at h
 cases res with
 |ok n w=>
  cases n<;>simp only [YM]at h<;>simp only [Oper.uponIn]
  case value=>exact hK _ _ h
  case skip=>exact hK _ _ h
  case enter f args=>exact⟨MD,xu.2 (h.mono fun e w' ⟨v,he,hk⟩=>by subst he;exact hK _ _ hk)⟩
  case round l f tmps assign body=>exact⟨MD,(Oj h).mono fun e w' ⟨v,he,hk⟩=>by subst he;exact hK _ _ hk⟩
 |halt x w=>simp only [YM]at h

def ce(E:En)(O:List OE)(G:lY)(o:Oper)(t:Ty):Prop:=
 ∀a w S,lV w S->du E.base E.B w S O->de E.N S a G->
  Ma E.P o a w (fun a' w' => ∃v S',a' =a.put o.dst v/\kx uc w S w' S' /\lV w' S' /\t.p S' v)
structure St(E:En)(O:List OE)(G:lY)(a:Act)(w:World)(S:SH):Prop where
 ext:kx E.B E.w0 E.S0 w S
 sat:lV w S
 own:du E.base E.B w S O
 facts:de E.N S a G
def RG(E:En)(ops:Array Oper)(af:Exit->Act->World->Prop)(l:List Oper)(O:List OE)(G:lY):Prop:= ∀a w S,St E O G a w S->wpListIn (fw E.r) 0 E.P ops af l a w
def CG(E:En)(af:Exit->Act->World->Prop)(c:Code)(O:List OE)(G:lY):Prop:= ∀a w S,St E O G a w S->c.wpIn (fw E.r) 0 E.P af a w
def AT(E:En)(af:Exit->Act->World->Prop)(e:Exit)(O:List OE)(G:lY):Prop:= ∀a w S,St E O G a w S->af e a w

variable{after:Array Edge}{fn:Func}{pos:String}{ts:List Ty}{y:Operand}
section
variable{E:En}{G' :lY}{l:List Oper}
def St.step(h:St E O G a w S)(k:kx uc w S w' S')(hs:lV w' S')(hd:Nat.blt aN E.N.n=true)(hv:t.p S' v):
  St E O ((aN,t)::G) (a.put (some aN) v) w' S' :=
 ⟨h.ext.step0 k,hs,h.own.ext0 k,(h.facts.mono k.keep).put hd hv⟩
def St.sub(h:St E O G a w S)(k:RW G' G):St E O G' a w S:=⟨h.ext,h.sat,h.own,h.facts.sub (I0 k)⟩
def RG.of(hg:o.guard=none)(h: ∀a w S,St E O G a w S->Ma E.P o a w (fun a' w' =>wpListIn (fw E.r) 0 E.P ops af l a' w')):RG E ops af (o::l) O G:=fun a w S st=>
 wpListIn_plain hg fun _ hK=>lv hK (h a w S st)

def fL{op:Op}{ty:TypeId}(h:ce E O G ⟨some aN,op,ty,pos,after,none⟩ t)(hd:Nat.blt aN E.N.n=true)(k:RG E ops af l O ((aN,t)::G)):
  RG E ops af (⟨some aN,op,ty,pos,after,none⟩::l) O G:= .of rfl fun a w S st=>
 oK (fun a' w' ⟨_,_,ha,he,hs,hv⟩=>by subst ha;exact k _ _ _ (st.step he hs hd hv)) (h a w S st.sat st.own st.facts)
def bu(h:AT E af .normal O G):RG E ops af [] O G:=fun a w S st=>h a w S st
def aO{id:Nat}{l:List Oper}(h:RG E l.toArray af l O G):CG E af (.region id l.toArray false) O G:=fun a w S st=>wpIn_region_lit (h a w S st)
def aE{x y:Code}(h:CG E (Exit.then (y.wpIn (fw E.r) 0 E.P af) af) x O G):CG E af (.seq x y) O G:=fun a w S st=>wpIn_seq (h a w S st)
def aC{y:Code}(h:CG E af y O G):AT E (Exit.then (y.wpIn (fw E.r) 0 E.P af) af) .normal O G:=h
def ck(h:AT E af .normal O G):CG E af .skip O G:=fun a w S st=>wpIn_skip (h a w S st)
def gH{id:Nat}(h:AT E af (.exit id) O G):CG E af (.exit id) O G:=fun a w S st=>wpIn_exit (h a w S st)
def zE(h:AT E af .ret O G):CG E af .ret O G:=fun a w S st=>wpIn_ret (h a w S st)
def ed{e:Exit}(h:AT E af e O G')(k:RW G' G):AT E af e O G:=fun a w S st=>h a w S (st.sub k)
def tX{c:Operand}{x y:Code}(H:aL E.N G c (K rB b))(D:b=true->CG E af x O G)(hy:b=false->CG E af y O G):CG E af (.cond c x y) O G:=fun a w S st=>by
 have hv:a.eval c= .bool b:=jy.1 (H S a st.facts)
 refine wpIn_cond hv ?_
 cases b with
 |true=>exact D rfl a w S st
 |false=>exact hy rfl a w S st
def am{id:Nat}(h:CG E (Exit.inBlock id af) c O G):CG E af (.block id c) O G:=fun a w S st=>wpIn_block (h a w S st)
def Bw(r:Option Nat)(P:Program)(c:Code)(af:Exit->Act->World->Prop)(a:Act)(w:World):Prop:=
 ∀(b:Frame) (k:List Item) (cs:List Frame),b.roundOf=r-> ∃e a' w',af e a' w' /\ArrivesIn (Machine.fenced P (fw r)) P (lone (b.atR a (.code c:: .inLoop c::k)) cs w) b k cs e a' w'
def Q0{r:Option Nat}{n:Nat}:(fw r).room n:=fun _ hd=>by cases hd
def J6{r:Option Nat}{P:Program}{af:Exit->Act->World->Prop}(h:Bw r P c af a w):(Code.loop c).wpIn (fw r) 0 P af a w:=fun b k cs hro H hr=>
 let⟨e,a',w',hq,harr⟩:=h b k cs hro
 ⟨e,a',w',hq,.of_steps (.one (fenced_calm H hr rfl) stepR_loop) harr⟩
def IE{r:Option Nat}{P:Program}{af:Exit->Act->World->Prop}(h:c.wpIn (fw r) 0 P (Exit.then (Bw r P c af) af) a w):Bw r P c af a w:=by
 intro b k cs hro
 obtain⟨e,a₁,w₁,hq,harr⟩:=h b (.inLoop c::k) cs hro trivial Q0
 cases e with
 |normal=>
  obtain⟨e₂,a₂,w₂,hq₂,harr₂⟩:=hq b k cs hro
  exact⟨e₂,a₂,w₂,hq₂,.of_steps (StepsIn.trans harr (.one (fenced_calm (n:=0) (F:=fw r) trivial Q0 rfl) stepR_inLoop)) harr₂⟩
 |exit id=>exact⟨_,a₁,w₁,hq,.pass (x:= .inLoop c) rfl (fun _ _=> .inl (by simp)) harr⟩
 |goto l=>exact⟨_,a₁,w₁,hq,.pass (x:= .inLoop c) rfl (fun _ _=> .inl (by simp)) harr⟩
 |ret=>exact⟨_,a₁,w₁,hq,.pass (x:= .inLoop c) rfl (fun _ _=> .inl (by simp)) harr⟩
 |panic ch=>exact⟨_,a₁,w₁,hq,.pass (x:= .inLoop c) rfl (fun _ _=> .inl (by simp)) harr⟩
 |outgrown=>exact⟨_,a₁,w₁,hq,.pass (x:= .inLoop c) rfl (fun _ _=> .inl (by simp)) harr⟩
def LG(E:En)(af:Exit->Act->World->Prop)(c:Code)(O:List OE)(G:lY):Prop:= ∀a w S,St E O G a w S->Bw E.r E.P c af a w
def cc(h:LG E af c O G):CG E af (.loop c) O G:=fun a w S st=>J6 (h a w S st)
def d7(h:CG E (Exit.then (Bw E.r E.P c af) af) c O G):LG E af c O G:=fun a w S st=>IE (h a w S st)
def aP(h:LG E af c O G')(k:RW G' G):LG E af c O G:=fun a w S st=>h a w S (st.sub k)
def bl(h:LG E af c O G):AT E (Exit.then (Bw E.r E.P c af) af) .normal O G:=h
def aH{id:Nat}(h:AT E af (.exit id) O G):AT E (Exit.then tD af) (.exit id) O G:=h
def an(h:AT E af .ret O G):AT E (Exit.then tD af) .ret O G:=h
def JX{id:Nat}(h:AT E af .ret O G):AT E (Exit.inBlock id af) .ret O G:=h
def bW{id:Nat}(h:AT E af .normal O G):AT E (Exit.inBlock id af) .normal O G:=h
def dA{id:Nat}(h:AT E af .normal O G):AT E (Exit.inBlock id af) (.exit id) O G:=fun a w S st=>by
 simp only [Exit.inBlock,i8];exact h a w S st
def cN{id id' :Nat}(hne:Nat.beq id' id=false)(h:AT E af (.exit id') O G):AT E (Exit.inBlock id af) (.exit id') O G:=fun a w S st=>by
 have:id' ≠id:=fun e=>by subst e;simp at hne
 simp only [Exit.inBlock,this,jB];exact h a w S st

def Ay(S:SH):List Ty->List Value->Prop
 |[],[]=>True
 |t::ts,v::vs=>t.p S v/\Ay S ts vs
 |_,_=>False
def Ay.mono(h:qT S S'): ∀{ts:List Ty} {vs:List Value},Ay S ts vs->Ay S' ts vs
 |[],[],_=>trivial
 |t::_,_::_,⟨A,V⟩=>⟨t.mono h A,Ay.mono h V⟩
def Ay.length: ∀{ts:List Ty} {vs:List Value},Ay S ts vs->vs.length=ts.length
 |[],[],_=>rfl
 |_::_,_::_,⟨_,V⟩=>by simp [Ay.length V]
def dZ(P:Program)(f:FuncId)(ts:List Ty)(t:Ty):Prop:=
 ∀w S vs,lV w S->Ay S ts vs->Calls P f vs.toArray w fun e w' => ∃v S',e= .returned v/\kx uc w S w' S' /\lV w' S' /\t.p S' v
def Pr(E:En)(t:Ty):Ending->World->Prop:=fun e w' => ∃v S',e= .returned v/\kx E.B E.w0 E.S0 w' S' /\lV w' S' /\t.p S' v
def AX(k:Nat):List Ty->lY
 |[]=>[]
 |t::ts=>(k,t)::AX (k+1) ts
def Hd: ∀(ts:List Ty) (k j:Nat) (t:Ty),look (AX k ts) j=some t-> ∃i,j=k+i/\ts[i]? =some t
 |[],_,_,_,h=>by simp [AX,look]at h
 |u::ts,k,j,t,h=>by
  unfold AX look at h
  by_cases H:Nat.beq k j=true
  ·rw [H]at h
   exact⟨0,by rw [pF H];rfl,by simpa using h⟩
  ·rw [Dy]at H
   rw [H]at h
   obtain⟨i,A,V⟩:=Hd ts (k+1) j t h
   exact⟨i+1,by omega,by simpa using V⟩
def Ay.at_: ∀{ts:List Ty} {vs:List Value} (_:Ay S ts vs) (i:Nat) (t:Ty),ts[i]? =some t-> ∃v,vs[i]? =some v/\t.p S v
 |_::_,v::_,⟨A,_⟩,0,t,h=>⟨v,rfl,by simp at h;rw [<-h];exact A⟩
 |_::ts,_::vs,⟨_,V⟩,i+1,t,h=>by simpa using Ay.at_ V i t (by simpa using h)
def BM{vs:List Value}(h:Ay S ts vs)(n:Nat)(hn:ts.length<=n):
  de ⟨n,[]⟩ S {tmps:=vs.toArray++Array.replicate (n-vs.toArray.size) undef,defers:=[]} (AX 0 ts):=by
 have hl:=h.length
 refine⟨by simp;omega,rfl,fun j t hj=>?_⟩
 obtain⟨i,e,hi⟩:=Hd ts 0 j t hj
 have e' :j=i:=by omega
 subst e'
 obtain⟨v,hv,M⟩:=h.at_ j t hi
 have hlt:j<vs.length:=(o5.1 hv).1
 have:(vs.toArray++Array.replicate (n-vs.toArray.size) undef).getD j undef=v:=by
  rw [JZ,Array.getElem?_append_left (by simpa using hlt)]
  simp [hv]
 rw [this];exact M
def Lj{P:Program}(hf:P.funcs[f]? =some fn)(H:fn.body=some c)(hn:ts.length<=fn.ntmps)(h: ∀w0 S0,CG ⟨P,⟨fn.ntmps,[]⟩,uc,w0,S0,none⟩ (bodyPost P fn (Pr ⟨P,⟨fn.ntmps,[]⟩,uc,w0,S0,none⟩ t)) c [] (AX 0 ts)):dZ P f ts t:=by
 intro w S vs hs hv
 exact xu.1 (callsIn_of_wp (F:=fw none) (n:=0) hf H trivial (h w S _ w S ⟨kx.refl _ _ _,hs,trivial,BM hv _ hn⟩))
def sZ(P:Program)(fn:Func)(k:Nat)(h:fn.results= #[.tmp k])(tmps:Array Value)(w:World):(results fn tmps).run P w= .ok (tmps.getD k undef) w:=by
 simp [results,h]
def aT{P:Program}{N:Nat}{B:Nat->Prop}{w0:World}{S0:SH}(hr:fn.results= #[.tmp k])(hk:look G k=some t):
  AT ⟨P,⟨N,[]⟩,B,w0,S0,none⟩ (bodyPost P fn (Pr ⟨P,⟨N,[]⟩,B,w0,S0,none⟩ t)) .ret O G:=fun _ _ S st=>
 ⟨st.facts.defers,_,sZ P fn k hr _ _,_,S,rfl,st.ext,st.sat,st.facts.at_ k t hk⟩
def tT(ts:List Ty):Ty where
 p:=fun S v=> ∃vs,v= .tuple vs.toArray/\Ay S ts vs
 mono:=fun h k=>by obtain⟨vs,e,k⟩:=k;exact⟨vs,e,Ay.mono h k⟩
def FA(P:Program)(fn:Func)(j k:Nat)(h:fn.results= #[.tmp j,.tmp k])(tmps:Array Value)(w:World):(results fn tmps).run P w= .ok (.tuple #[tmps.getD j undef,tmps.getD k undef]) w:=by
 simp [results,h]
def gP{P:Program}{N:Nat}{B:Nat->Prop}{w0:World}{S0:SH}{u:Ty}(hr:fn.results= #[.tmp j,.tmp k])(hj:look G j=some t)(hk:look G k=some u):
  AT ⟨P,⟨N,[]⟩,B,w0,S0,none⟩ (bodyPost P fn (Pr ⟨P,⟨N,[]⟩,B,w0,S0,none⟩ (tT [t,u]))) .ret O G:=fun _ _ S st=>
 ⟨st.facts.defers,_,FA P fn j k hr _ _,_,S,rfl,st.ext,st.sat,[_,_],rfl,st.facts.at_ j t hj,st.facts.at_ k u hk,trivial⟩
end

variable{dst:Option Tmp}{xt yt:TypeId}
section
variable{E:En}{ty:TypeId}
def ce.of_run(h: ∀a w S,lV w S->du E.base E.B w S O->de E.N S a G->
  ∃v w' S',(execOp a.eval o).run E.P w= .ok (.value v) w' /\kx uc w S w' S' /\lV w' S' /\t.p S' v)(hd: ∀c,o.op≠ .defer c:=by intro c h;cases h):ce E O G o t:=fun a w S hs ho hf=>by
 obtain⟨v,w',S',hr,he,hs',hv⟩:=h a w S hs ho hf
 refine⟨hd,?_⟩
 rw [hr]
 exact⟨v,S',rfl,he,hs',hv⟩
def ce.of_pure(h: ∀a w S,lV w S->du E.base E.B w S O->de E.N S a G-> ∃v,(execOp a.eval o).run E.P w= .ok (.value v) w/\t.p S v)(hd: ∀c,o.op≠ .defer c:=by intro c h;cases h):ce E O G o t:=
 .of_run (fun a w S hs ho hf=>let⟨v,hr,hv⟩:=h a w S hs ho hf;⟨v,w,S,hr,kx.refl _ _ _,hs,hv⟩) hd

def bG(D:aL E.N G x t):ce E O G ⟨dst,.move x,ty,pos,after,g⟩ t:=
 .of_pure fun a _ S _ _ hf=>⟨a.eval x,rfl,D S a hf⟩
def cR(D:aL E.N G x t):ce E O G ⟨dst,.assign x,ty,pos,after,g⟩ t:=
 .of_pure fun a _ S _ _ hf=>⟨a.eval x,rfl,D S a hf⟩
def FY{c:Operand}(hc:aL E.N G c (K rB b))(D:b=true->aL E.N G x t)(hy:b=false->aL E.N G y t):ce E O G ⟨dst,.pick c x y,ty,pos,after,g⟩ t:=
 .of_pure fun a _ S _ _ hf=>by
  have A:a.eval c= .bool b:=jy.1 (hc S a hf)
  refine⟨if b then a.eval x else a.eval y,by simp [execOp,A,asBool],?_⟩
  cases b with
  |true=>exact D rfl S a hf
  |false=>exact hy rfl S a hf

section
variable{k:IntKind}{m n:Int}
def MK{P:Program}{op:BinOp}{xt:TypeId}{x y:Operand}{k k' :IntKind}{m n:Int}:(eqGuard op xt x y (.int k m) (.int k' n)).run P w= .ok () w:=by
 unfold eqGuard
 cases op<;>rfl
def vN{op:BinOp}(D:aL E.N G x (K (rI k) m))(hy:aL E.N G y (K (rI k) n))(hv: ∀P w,(binOp op xt (.int k m) (.int k n)).run P w= .ok v w)(M: ∀S,t.p S v):
  ce E O G ⟨dst,.binOp op xt x y yt,ty,pos,after,g⟩ t:=
 .of_pure fun a w S _ _ hf=>by
  have A:a.eval x= .int k m:=f8.1 (D S a hf)
  have V:a.eval y= .int k n:=f8.1 (hy S a hf)
  refine⟨v,?_,M S⟩
  simp [execOp,A,V,MK,hv]
def vO(D:aL E.N G x (K (rI k) m))(hy:aL E.N G y (K (rI k) n)):ce E O G ⟨dst,.binOp .add xt x y yt,ty,pos,after,g⟩ (K (rI k) (k.wrap (m+n))):=
 vN D hy (fun _ _=>by simp [binOp,Op.intArith]) (fun _=>f8.2 rfl)
def qF(D:aL E.N G x (K (rI k) m))(hy:aL E.N G y (K (rI k) n)):ce E O G ⟨dst,.binOp .sub xt x y yt,ty,pos,after,g⟩ (K (rI k) (k.wrap (m-n))):=
 vN D hy (fun _ _=>by simp [binOp,Op.intArith]) (fun _=>f8.2 rfl)
def Uu(D:aL E.N G x (K (rI k) m))(hy:aL E.N G y (K (rI k) n)):ce E O G ⟨dst,.binOp .mul xt x y yt,ty,pos,after,g⟩ (K (rI k) (k.wrap (m*n))):=
 vN D hy (fun _ _=>by simp [binOp,Op.intArith]) (fun _=>f8.2 rfl)
def Ut(D:aL E.N G x (K (rI k) m))(hy:aL E.N G y (K (rI k) n))(h0:n≠0):ce E O G ⟨dst,.binOp .rem xt x y yt,ty,pos,after,g⟩ (K (rI k) (m.tmod n)):=
 vN D hy (fun _ _=>by simp [binOp,Op.intDiv,h0]) (fun _=>f8.2 rfl)
def jh(D:aL E.N G x (K (rI k) m))(hy:aL E.N G y (K (rI k) n)):ce E O G ⟨dst,.binOp .lss xt x y yt,ty,pos,after,g⟩ (K rB (decide (m<n))):=
 vN D hy (fun _ _=>by simp [binOp,Op.intCmp]) (fun _=>jy.2 rfl)
def pJ(D:aL E.N G x (K (rI k) m))(hy:aL E.N G y (K (rI k) n)):ce E O G ⟨dst,.binOp .leq xt x y yt,ty,pos,after,g⟩ (K rB (decide (m<=n))):=
 vN D hy (fun _ _=>by simp [binOp,Op.intCmp]) (fun _=>jy.2 rfl)
def lP(D:aL E.N G x (K (rI k) m))(hy:aL E.N G y (K (rI k) n)):ce E O G ⟨dst,.binOp .gtr xt x y yt,ty,pos,after,g⟩ (K rB (decide (n<m))):=
 vN D hy (fun _ _=>by simp [binOp,Op.intCmp]) (fun _=>jy.2 rfl)
def lQ(D:aL E.N G x (K (rI k) m))(hy:aL E.N G y (K (rI k) n)):ce E O G ⟨dst,.binOp .geq xt x y yt,ty,pos,after,g⟩ (K rB (decide (n<=m))):=
 vN D hy (fun _ _=>by simp [binOp,Op.intCmp]) (fun _=>jy.2 rfl)
def sf(D:aL E.N G x (K (rI k) m))(hy:aL E.N G y (K (rI k) n)):ce E O G ⟨dst,.binOp .eql xt x y yt,ty,pos,after,g⟩ (K rB (m==n)):=
 vN D hy (fun _ _=>by simp [binOp,Op.intCmp]) (fun _=>jy.2 rfl)
def jg(D:aL E.N G x (K (rI k) m))(hy:aL E.N G y (K (rI k) n)):ce E O G ⟨dst,.binOp .neq xt x y yt,ty,pos,after,g⟩ (K rB (m !=n)):=
 vN D hy (fun _ _=>by simp [binOp,Op.intCmp]) (fun _=>jy.2 rfl)
def m9(D:aL E.N G x (K rB b)):ce E O G ⟨dst,.unOp .not xt x,ty,pos,after,g⟩ (K rB (!b)):=
 .of_pure fun a w S _ _ hf=>by
  have A:a.eval x= .bool b:=jy.1 (D S a hf)
  exact⟨.bool (!b),by simp [execOp,A,Op.unary],jy.2 rfl⟩
def wR{st dt:TypeId}{k' :IntKind}{aN:TypeDesc}(hs:E.P.underlying st=some aN)(hd:E.P.underlying dt=some (.int k'))(D:aL E.N G x (K (rI k) m)):
  ce E O G ⟨dst,.convert st dt x,ty,pos,after,g⟩ (K (rI k') (k'.wrap m)):=
 .of_pure fun a w S _ _ hf=>by
  have A:a.eval x= .int k m:=f8.1 (D S a hf)
  refine⟨.int k' (k'.wrap m),?_,f8.2 rfl⟩
  simp only [execOp,A,convert,qZ,jx hs,jx hd,sq]
  cases aN<;>simp [Conv.intToInt]
end

def wg{P:Program}{t:TypeId}(M:P.underlying t=some .bool)(aN:Nat)(b c:Bool)(w:World):(Op.equalIn (aN+1) t (.bool b) (.bool c)).run P w= .ok (b==c) w:=by
 simp [Op.equalIn,jx M]
def FR{P:Program}{t:TypeId}{x y:Value}(H: ∀aN,(Op.equalIn (aN+1) t x y).run P w= .ok b w):(Op.equal t x y).run P w= .ok b w:=H 9999
section
def Kz{c:Bool}(M:E.P.underlying xt=some .bool)(D:aL E.N G x (K rB b))(hy:aL E.N G y (K rB c)):ce E O G ⟨dst,.binOp .eql xt x y yt,ty,pos,after,g⟩ (K rB (b==c)):=
 .of_pure fun a w S _ _ hf=>by
  have A:a.eval x= .bool b:=jy.1 (D S a hf)
  have V:a.eval y= .bool c:=jy.1 (hy S a hf)
  exact⟨.bool (b==c),by simp [execOp,A,V,eqGuard,binOp,FR (fun aN=>wg M aN b c w)],jy.2 rfl⟩
def WB{c:Bool}(M:E.P.underlying xt=some .bool)(D:aL E.N G x (K rB b))(hy:aL E.N G y (K rB c)):ce E O G ⟨dst,.binOp .neq xt x y yt,ty,pos,after,g⟩ (K rB (b !=c)):=
 .of_pure fun a w S _ _ hf=>by
  have A:a.eval x= .bool b:=jy.1 (D S a hf)
  have V:a.eval y= .bool c:=jy.1 (hy S a hf)
  exact⟨.bool (b !=c),by simp [execOp,A,V,eqGuard,binOp,FR (fun aN=>wg M aN b c w)];cases b<;>cases c<;>rfl,jy.2 rfl⟩
def Us{op:BinOp}{s u:cj}(D:aL E.N G x (K rS s))(hy:aL E.N G y (K rS u))(hv: ∀P w,(Op.stringOp op ⟨s.toArray⟩ ⟨u.toArray⟩).run P w= .ok (.bool b) w)(hg: ∀P w,(eqGuard op xt x y (.string ⟨s.toArray⟩) (.string ⟨u.toArray⟩)).run P w= .ok () w)(H: ∀P w,(binOp op xt (.string ⟨s.toArray⟩) (.string ⟨u.toArray⟩)).run P w=(Op.stringOp op ⟨s.toArray⟩ ⟨u.toArray⟩).run P w):
  ce E O G ⟨dst,.binOp op xt x y yt,ty,pos,after,g⟩ (K rB b):=
 .of_pure fun a w S _ _ hf=>by
  have A:a.eval x= .string ⟨s.toArray⟩:=uv.1 (D S a hf)
  have V:a.eval y= .string ⟨u.toArray⟩:=uv.1 (hy S a hf)
  refine⟨.bool b,?_,jy.2 rfl⟩
  simp [execOp,A,V,hg,H,hv]
def na{s u:cj}(D:aL E.N G x (K rS s))(hy:aL E.N G y (K rS u)):ce E O G ⟨dst,.binOp .eql xt x y yt,ty,pos,after,g⟩ (K rB (s==u)):=
 Us D hy (fun _ _=>by simp [Op.stringOp]) (fun _ _=>rfl) (fun _ _=>rfl)
def CL{s u:cj}(D:aL E.N G x (K rS s))(hy:aL E.N G y (K rS u)):ce E O G ⟨dst,.binOp .neq xt x y yt,ty,pos,after,g⟩ (K rB (!(s==u))):=
 Us D hy (fun _ _=>by simp [Op.stringOp]) (fun _ _=>rfl) (fun _ _=>rfl)
end
end

def UQ:TypeDesc->Bool
 | .struct _| .array _ _=>true
 |_=>false
structure TI(P:Program)(T:TypeId)(sz bytes:Nat)(agg:Bool)(z:List Value):Prop where
 info:(P.info? T).map (fun i=>(i.zero.map (·.cells.toList),i.size,i.bytes))=some (some z,sz,bytes)
 ag:(P.underlying T).map UQ=some agg
variable{T:TypeId}{z:List Value}
section
variable{P:Program}{sz:Nat}{agg:Bool}
def TI.get(h:TI P T sz bytes agg z): ∃i zv,P.info? T=some i/\i.size=sz/\i.bytes=bytes/\i.zero=some zv/\zv.cells=z.toArray:=by
 have:=h.info
 cases hi:P.info? T with
 |none=>rw [hi]at this;simp at this
 |some i=>
  rw [hi]at this
  simp only [EN,yv,EM,Qc]at this
  obtain⟨⟨zv,A,V⟩,h3,h4⟩:=this
  exact⟨i,zv,rfl,h3,h4,A,by rw [<-V]⟩
def TI.sizeOf(h:TI P T sz bytes agg z)(w:World):(Go.sizeOf T).run P w= .ok sz w:=by
 obtain⟨i,zv,A,V,_⟩:=h.get
 simp [Go.sizeOf,typeInfo,A,V]
def TI.isAgg(h:TI P T sz bytes agg z)(w:World):(Go.isAgg T).run P w= .ok agg w:=by
 have:=h.ag
 cases hi:P.underlying T with
 |none=>rw [hi]at this;simp at this
 |some aN=>
  rw [hi]at this
  simp only [EN,yv]at this
  simp only [Go.isAgg,qZ,jx hi,sq]
  rw [<-this]
  cases aN<;>simp [UQ]
def TI.zero(h:TI P T sz bytes agg z)(w:World): ∃zv,(zeroValue T).run P w= .ok zv w/\zv.cells=z.toArray:=by
 obtain⟨i,zv,A,_,_,h4,h5⟩:=h.get
 exact⟨zv,by simp [zeroValue,typeInfo,A,h4],h5⟩
end

def iU(b off i:Nat):(⟨b,off,none⟩:Addr).add i=⟨b,off+i,none⟩:=by
 unfold Addr.add
 split
 ·simp_all
 ·rfl
def Ad{b:Nat}{c:Array Value}(h:w.heap[b]? =some (.cells c T fr))(i:Nat):w.cell? ⟨b,i,none⟩=c[i]? :=by
 simp [World.cell?,h]
def DZ{P:Program}{b n:Nat}{c:Array Value}(h:w.heap[b]? =some (.cells c T fr))(hcs:(c.toList.drop off).take n=cs)(hl:cs.length=n):
  (loadCells ⟨b,off,none⟩ n).run P w= .ok cs.toArray w:=by
 rw [<-hl]
 refine run_loadCells_list w ⟨b,off,none⟩ cs fun j v hv=>?_
 rw [iU,Ad h]
 have hj:j<cs.length:=(o5.1 hv).1
 rw [<-hcs,DA (by omega),wz]at hv
 simpa using hv
def iu{P:Program}{b:Nat}{c:Array Value}{U:TypeId}{sz:Nat}{agg:Bool}(ti:TI P U sz bytes agg z)(h:w.heap[b]? =some (.cells c T fr)){r:Rp α}(hsz:r.sz=sz)(hag:r.agg=agg){x:α}(D:r.rc S ((c.toList.drop off).take r.sz) x):
  (loadVar U ⟨b,off,none⟩).run P w= .ok (r.val ((c.toList.drop off).take r.sz)) w:=by
 have hl:=r.len D
 subst hsz
 subst hag
 simp only [loadVar,qZ,ti.isAgg,sq]
 cases ha:r.agg with
 |true=>simp [ti.sizeOf,DZ h rfl hl,Rp.val,ha]
 |false=>
  have A:=r.sc ha
  have hcell:w.cell? ⟨b,off,none⟩=some (((c.toList.drop off).take r.sz).headD undef):=by
   rw [Ad h]
   rw [A]at hl ⊢
   cases hd:c.toList.drop off with
   |nil=>rw [hd]at hl;simp at hl
   |cons v rest=>
    have:(c.toList.drop off)[0]? =some v:=by rw [hd];rfl
    rw [wz]at this
    simpa using this
  simp [hcell,Rp.val,ha]

variable{ats:Array TypeId}
section
variable{E:En}{ty:TypeId}
def nO{r:Rp α}{x:α}{U:TypeId}{p:Operand}{sz:Nat}{agg:Bool}(ti:TI E.P U sz bytes agg z)(hsz:r.sz=sz)(hag:r.agg=agg)(hp:aL E.N G p (bt r x)):
  ce E O G ⟨dst,.load U p,ty,pos,after,g⟩ (K r x):=
 .of_pure fun a w S hs _ hf=>by
  obtain⟨b,off,c,T,fr,A,V,h3⟩:=hp S a hf
  obtain⟨c',h4,h5⟩:=hs.part V (r.len h3)
  rw [<-h5]at h3
  refine⟨r.val ((c'.toList.drop off).take r.sz),?_,_,rfl,h3⟩
  simp [execOp,A,Instr.loadAt,Instr.sureAddr,iu ti h4 hsz hag h3]

def Rr(s:cj):(ByteArray.mk s.toArray).size=s.length:=by simp [ByteArray.size]
def oc{r:Rp α}{t:TypeId}(M:E.P.underlying t=some (.slice e))(D:aL E.N G x (K (fJ r) xs)):
  ce E O G ⟨dst,.call ⟨.builtin .len,#[x],#[t]⟩,ty,pos,after,g⟩ (K (rI .i64) (xs.length:Int)):=
 .of_pure fun a w S _ _ hf=>by
  obtain⟨ad,cap,A,_⟩:=m4.1 (D S a hf)
  refine⟨.int .i64 xs.length,?_,f8.2 rfl⟩
  simp [execOp,resolve,invoke,builtin,Builtin.len_,jx M,A,goInt]
def tK{s:cj}{t:TypeId}(M:E.P.underlying t=some .string)(D:aL E.N G x (K rS s)):
  ce E O G ⟨dst,.call ⟨.builtin .len,#[x],#[t]⟩,ty,pos,after,g⟩ (K (rI .i64) (s.length:Int)):=
 .of_pure fun a w S _ _ hf=>by
  have A:a.eval x= .string ⟨s.toArray⟩:=uv.1 (D S a hf)
  refine⟨.int .i64 s.length,?_,f8.2 rfl⟩
  simp [execOp,resolve,invoke,builtin,Builtin.len_,jx M,A,goInt,Rr]

def ep{α:Type}(xs:List α)(i:Int):Option α:=if 0<=i then xs[i.toNat]? else none
def fE(xs:List α)(i:Nat):ep xs (i:Int)=xs[i]? :=by simp [ep]
def RZ{r:Rp α}{a:Option Addr}(h:LF r S a xs){x:α}(D:xs[i]? =some x):
  ∃b off c T fr,a=some ⟨b,off,none⟩/\S b=some (.cells c T fr)/\r.rc S ((c.toList.drop (off+i*r.sz)).take r.sz) x:=by
 rcases h with rfl|⟨b,off,c,T,fr,e1,e2,e3⟩
 ·simp at D
 ·refine⟨b,off,c,T,fr,e1,e2,?_⟩
  have h:=wQ e3 D
  have hi:i<xs.length:=(o5.1 D).1
  rw [yq,B0,uk]at h
  have:min r.sz (xs.length*r.sz-i*r.sz)=r.sz:=by
   rw [<-Nat.sub_mul]
   have:1*r.sz<=(xs.length-i)*r.sz:=ya _ (by omega)
   omega
  rw [this]at h
  exact h
def kC{r:Rp α}{y:α}{ix:Operand}{t:TypeId}{k:IntKind}{i:Int}{sz:Nat}{agg:Bool}(M:E.P.underlying t=some (.slice e))(ti:TI E.P e sz bytes agg z)(hsz:r.sz=sz)(D:aL E.N G x (K (fJ r) xs))(hi:aL E.N G ix (K (rI k) i))(hy:ep xs i=some y):
  ce E O G ⟨dst,.indexAddr t x ix,ty,pos,after,g⟩ (bt r y):=
 .of_pure fun a w S _ _ hf=>by
  obtain⟨ad,cap,A,_,_,V⟩:=m4.1 (D S a hf)
  have h3:a.eval ix= .int k i:=f8.1 (hi S a hf)
  have h0:0<=i:=by unfold ep at hy;split at hy;assumption;cases hy
  have hy' :xs[i.toNat]? =some y:=by unfold ep at hy;rw [bv h0]at hy;exact hy
  have hlt:i.toNat<xs.length:=(o5.1 hy').1
  obtain⟨b,off,c,T,fr,e1,e2,e3⟩:=RZ V hy'
  subst e1
  refine⟨.pointer (some ⟨b,off+i.toNat*r.sz,none⟩),?_,b,_,c,T,fr,rfl,e2,e3⟩
  have hc:0<=i/\i<(xs.length:Int):=⟨h0,by omega⟩
  simp [execOp,A,h3,Instr.indexAt,asIntOf,jx M,hc,ti.sizeOf,iU,hsz]

def ju{α β:Type}(r:Rp α)(off:Nat)(q:Rp β)(get:α->β):Prop:= ∀S cs x,r.rc S cs x->q.rc S ((cs.drop off).take q.sz) (get x)
def bp(P:Program)(T:TypeId)(i:Nat):Option (Nat×Nat):=
 match P.underlying T with
 |some (.struct fs)=>(fs[i]?).bind fun f=>(P.info? f.type).map fun q=>(f.offset,q.size)
 |_=>none
def D0{P:Program}{sz:Nat}(h:bp P T i=some (off,sz)): ∃fs f,P.underlying T=some (.struct fs)/\fs[i]? =some f/\f.offset=off/\ ∀w,(sizeOf f.type).run P w= .ok sz w:=by
 unfold bp at h
 split at h
 ·rename_i fs hu
  cases hf:fs[i]? with
  |none=>rw [hf]at h;simp at h
  |some f=>
   rw [hf]at h
   cases hq:P.info? f.type with
   |none=>simp [hq]at h
   |some q=>
    simp [hq]at h
    exact⟨fs,f,hu,hf,h.1,fun w=>by simp [sizeOf,typeInfo,hq,h.2]⟩
 ·cases h
def kD{r:Rp α}{q:Rp β}{get:α->β}{x:α}{sz:Nat}{p:Operand}(hf:bp E.P T i=some (off,sz))(h0:Nat.beq sz 0=false)(hq:ju r off q get)(hoff:Nat.ble (off+q.sz) r.sz=true)(hp:aL E.N G p (bt r x)):ce E O G ⟨dst,.fieldAddr T p i,ty,pos,after,g⟩ (bt q (get x)):=
 .of_pure fun a w S _ _ hF=>by
  obtain⟨b,o,c,U,fr,A,V,h3⟩:=hp S a hF
  obtain⟨fs,f,e1,e2,e3,e4⟩:=D0 hf
  have h0' :sz≠0:=fun e=>by subst e;simp at h0
  have hoff' :off+q.sz<=r.sz:=rm hoff
  refine⟨.pointer (some ⟨b,o+off,none⟩),?_,b,_,c,U,fr,rfl,V,?_⟩
  ·simp [execOp,A,Instr.fieldAt,jx e1,e2,Instr.sureAddr,fieldPlace,e4,h0',e3,iU]
  ·have:=hq S _ x h3
   rw [yq,B0,uk,A7 (by omega)]at this
   exact this
def aj(P:Program)(f:FuncId):Bool:=
 match P.funcs[f]? with
 |some fn=> !(fn.name== "runtime.NumGoroutine")&&fn.body.isSome
 |none=>false
def jN{P:Program}(h:aj P f=true)(args:Array Value)(w:World):(callFunc f args).run P w= .ok (.enter f args) w:=by
 unfold aj at h
 cases hf:P.funcs[f]? with
 |none=>rw [hf]at h;cases h
 |some fn=>
  rw [hf]at h
  simp only [gQ,yn]at h
  have A:fn.name≠ "runtime.NumGoroutine" :=by simpa using h.1
  have V:fn.body≠none:=fun e=>by rw [e]at h;simp at h
  simp [callFunc,hf,A,V]
def j3(N:Fr)(G:lY):List Operand->List Ty->Prop
 |[],[]=>True
 |x::xs,t::ts=>aL N G x t/\j3 N G xs ts
 |_,_=>False
def j3.tys{N:Fr}(hF:de N S a G): ∀{xs:List Operand} {ts:List Ty},j3 N G xs ts->Ay S ts (xs.map a.eval)
 |[],[],_=>trivial
 |_::_,_::_,⟨A,V⟩=>⟨A S a hF,j3.tys hF V⟩
def bH{xs:List Operand}(hc:aj E.P f=true)(hs:dZ E.P f ts t)(D:j3 E.N G xs ts):
  ce E O G ⟨dst,.call ⟨.value (.func f),xs.toArray,ats⟩,ty,pos,after,g⟩ t:=fun a w S hS _ hF=>by
 have hr:(execOp a.eval ⟨dst,.call ⟨.value (.func f),xs.toArray,ats⟩,ty,pos,after,g⟩).run E.P w= .ok (.enter f (xs.map a.eval).toArray) w:=by
  simp [execOp,resolve,Act.eval,Deferred.ofValue,invoke,jN hc]
 refine⟨fun c h=>(by cases h),?_⟩
 rw [hr]
 exact(hs w S _ hS (D.tys hF)).mono fun e w' ⟨v,S',he,A,V,h3⟩=>⟨v,he,v,S',rfl,A,V,h3⟩
end

def nI{o:Obj}(h:k<w.heap.size):(w.alloc o).heap[k]? =w.heap[k]? :=RowKit.Below.heap_alloc w o k h
def SH.set(S:SH)(b:Nat)(o:Obj):SH:=fun k=>if k=b then some o else S k
def ox(S:SH)(b:Nat)(o:Obj):S.set b o b=some o:=bv rfl
def rM(S:SH){b:Nat}(o:Obj)(h:k≠b):S.set b o k=S k:=bm h
def Ah{b:Nat}{o:Obj}(h: ∀q,S b=some q->Io q o):qT S (S.set b o):=fun k q hq=>by
 by_cases hk:k=b
 ·subst hk;exact⟨o,ox _ _ _,h q hq⟩
 ·exact⟨q,by rw [rM _ _ hk];exact hq,wi q⟩
def lV.set(h:lV w S){b:Nat}{o:Obj}(A:w.heap[b]? =some o')(V:Io o o')(h3: ∀q,S b=some q->Io q o):lV w (S.set b o):=by
 refine⟨fun k q hq=>?_,fun p hp=>?_,fun w' hw' =>h.tb w' fun k q hq=>?_⟩
 ·by_cases hk:k=b
  ·subst hk
   rw [ox]at hq
   cases hq
   exact⟨o',A,V⟩
  ·rw [rM _ _ hk]at hq;exact h k q hq
 ·obtain⟨c,T,fr,g1,g2⟩:=h.gl p hp
  by_cases hk:p.1=b
  ·subst hk
   obtain⟨aN,hd⟩:=h3 _ g1
   refine⟨_,T,fr,by rw [ox,hd],?_⟩
   rw [List.toList_toArray,yc ?_]
   ·exact g2
   ·have:=congrArg List.length g2
    rw [ym]at this
    omega
  ·exact⟨c,T,fr,by rw [rM _ _ hk];exact g1,g2⟩
 ·by_cases hk:k=b
  ·subst hk
   obtain⟨o1,g1,g2⟩:=hw' k o (ox _ _ _)
   exact⟨o1,g1,Jg (h3 q hq) g2⟩
  ·exact hw' k q (by rw [rM _ _ hk];exact hq)
def kL(o:Obj)(hs:lV w S):kx uc w S (w.alloc o) S/\lV (w.alloc o) S/\S w.heap.size=none:=by
 refine⟨⟨rfl,rfl,rfl,gu _,by simp,fun k hk _=>nI hk,SH.le_refl _,fun _ _ _=>rfl⟩,hs.same fun b q H=>nI (hs.lt H),?_⟩
 cases h:S w.heap.size with
 |none=>rfl
 |some q=>have:=hs.lt h;omega
def vF(o:Obj)(hs:lV w S):kx uc w S (w.alloc o) (S.set w.heap.size o)/\lV (w.alloc o) (S.set w.heap.size o):=by
 obtain⟨A,V,h3⟩:=kL o hs
 refine⟨⟨rfl,rfl,rfl,gu _,by simp,fun k hk _=>nI hk,Ah fun q hq=>(by rw [h3]at hq;cases hq),fun k hk _=>rM _ _ (by omega)⟩,V.set (Az w o) (wi o) fun q hq=>by rw [h3]at hq;cases hq⟩
def Dv(hs:lV w S):kx uc w S w.drew S/\lV w.drew S:=⟨⟨rfl,rfl,rfl,Nat.le_succ _,gu _,fun _ _ _=>rfl,SH.le_refl _,fun _ _ _=>rfl⟩,hs.same fun _ _ _=>rfl⟩

def Y(l:Option Nat)(cap n:Nat):Value:=
 match l with
 |none=> .slice none 0 0
 |some b=> .slice (some ⟨b,0,none⟩) n cap
def xT(w:World)(T:TypeId)(sz:Nat)(l:Option Nat)(cap n:Nat)(cells:List Value):Prop:=
 match l with
 |none=>n=0/\cells=[]
 |some b=> ∃cur,w.heap[b]? =some (.cells cur T (0,0))/\n<=cap/\cap<=maxLen/\cur.size=cap*sz/\cur.toList.take (n*sz)=cells
def Ax{α:Type}(m:Bool)(r:Rp α)(T:TypeId)(l:Option Nat)(cap:Nat)(xs:List α)(w:World)(S:SH):Prop:=
 ∃cells,xT w T r.sz l cap xs.length cells/\qc r S cells xs/\ ∀b,l=some b->S b=if m then some (.cells cells.toArray T (0,0))else none
def xT.lt{sz b n:Nat}(h:xT w T sz (some b) cap n cells):b<w.heap.size:=by
 obtain⟨cur,A,_⟩:=h
 exact(Bb.1 A).1
def xT.ext{sz n:Nat}(h:xT w T sz l cap n cells)(k: ∀b,l=some b->w'.heap[b]? =w.heap[b]?):xT w' T sz l cap n cells:=by
 cases l with
 |none=>exact h
 |some b=>
  obtain⟨cur,A,V⟩:=h
  exact⟨cur,by rw [k b rfl];exact A,V⟩
def ku{α:Type}(m:Bool)(r:Rp α)(T:TypeId)(l:Option Nat)(cap:Nat)(xs:List α):OE where
 fp:=fun k=>l=some k
 p:=Ax m r T l cap xs
 here:=by
  intro w S h k hk
  subst hk
  obtain⟨cells,A,_⟩:=h
  exact A.lt
 kept:=by
  intro C w w' S S' h k hC
  obtain⟨cells,A,V,h3⟩:=h
  refine⟨cells,A.ext fun b H=>?_,sB k.keep V,fun b H=>?_⟩
  ·subst H;exact k.heap b A.lt (hC b rfl)
  ·subst H;rw [k.old b A.lt (hC b rfl)];exact h3 b rfl
abbrev dv{α:Type}(r:Rp α)(T:TypeId)(l:Option Nat)(cap:Nat)(xs:List α):OE:=ku false r T l cap xs
abbrev d{α:Type}(r:Rp α)(T:TypeId)(l:Option Nat)(cap:Nat)(xs:List α):OE:=ku true r T l cap xs
def lr{α:Type}(xs ys:List α):Option (List α):=if xs.length+ys.length<=68719476736 then some (xs++ys)else none
variable{zs:List α}
def VG(h:lr xs ys=some zs):zs=xs++ys/\xs.length+ys.length<=68719476736:=by
 unfold lr at h
 split at h
 ·exact⟨by simpa using h.symm,by assumption⟩
 ·cases h
variable{news:List Value}
def Au{P:Program}{t tx ty:TypeId}{i:TypeInfo}(M:P.underlying t=some (.slice e))(hi:P.info? e=some i){g sLen sCap:Nat}{cur:Array Value}(hg:w.heap[g]? =some (.cells cur e (0,0))){x:Value}{n:Nat}(hs:Src P i.size tx x n news w)(hroom:sLen+n<=sCap)(hfit:sLen*i.size+news.length<=cur.size):
  (Builtin.append_ #[t,tx] ty #[.slice (some ⟨g,0,none⟩) sLen sCap,x]).run P w=
   .ok (.slice (some ⟨g,0,none⟩) (sLen+n) sCap) (w.setRow g (cur.toList.take (sLen*i.size)++news++cur.toList.drop (sLen*i.size+news.length)).toArray):=by
 have hst:=run_storeCells_at P g (sLen*i.size) e news 0 cur w hg (by simpa using hfit) hs.one
 simp only [F6]at hst
 rcases hs.kind with⟨e',hk⟩|hk<;>simp [Builtin.append_,jx M,jx hk,sizeOf,typeInfo,hi,hs.len,hroom,hs.cells,Addr.add_lit,hst]
structure Yj(l:Option Nat)(w w' :World):Prop where
 os:w'.os=w.os
 tape:w'.tape=w.tape
 output:w'.output=w.output
 drawn:w.drawn<=w'.drawn
 size:w.heap.size<=w'.heap.size
 heap: ∀k,k<w.heap.size->l≠some k->w'.heap[k]? =w.heap[k]?
variable{t' :TypeId}
def GG{P:Program}{t ty:TypeId}{sz:Nat}{agg:Bool}{n m:Nat}{x:Value}(ti:TI P T sz bytes agg z)(hz:Nat.beq z.length sz=true)(h0:Nat.blt 0 sz=true)(h128:Nat.ble bytes 2048=true)(M:P.underlying t=some (.slice T))(h:xT w T sz l cap n cells)(hs:Src P sz t' x m news w)(hlen:n+m<=68719476736):
  ∃l' cap' w',(Builtin.append_ #[t,t'] ty #[Y l cap n,x]).run P w= .ok (Y l' cap' (n+m)) w' /\xT w' T sz l' cap' (n+m) (cells++news)/\Yj l w w' /\(∀b,l' =some b->l=some b\/w.heap.size<=b)/\(∀b,l=some b->l' ≠some b->w'.heap[b]? =w.heap[b]?):=by
 obtain⟨i,zv,hi,A,V,h3,h4⟩:=ti.get
 have h128' :=rm h128
 have h0' :0<sz:=by simpa [sr] using h0
 have hz2:z.length=sz:=pF hz
 subst A
 have hnl:=hs.newsLen
 have hbytes:(n+m)*i.bytes<=140737488355328:=nA (Nat.mul_le_mul hlen (by omega:i.bytes<=2048)) (by omega)
 by_cases hm:m=0
 ·subst hm
  have hn0:news=[]:=wA (by simpa using hnl)
  subst hn0
  refine⟨l,cap,w,?_,by simpa using h,⟨rfl,rfl,rfl,gu _,gu _,fun _ _ _=>rfl⟩,fun b H=> .inl H,fun b _ _=>rfl⟩
  cases l with
  |none=>
   obtain⟨rfl,_⟩:=h
   exact run_append_nothing w t t' ty T i M hi none 0 0 (gu _) _ hs
  |some b=>
   obtain⟨cur,_,hle,_⟩:=h
   exact run_append_nothing w t t' ty T i M hi (some ⟨b,0,none⟩) n cap hle _ hs
 have Y5: ∀old,old<n+m->Builtin.nextslicecap (n+m) old*i.bytes<=281474976710656:=fun old ho=>growslice_fits ho hbytes
 -- a new row
 have fresh: ∀(base:Option Addr) (olds:List Value),Y l cap n= .slice base n cap->olds=cells->cap<n+m->(Builtin.firstCells i.size n (.slice base n cap)).run P w.drew= .ok olds.toArray w.drew->cells.length=n*i.size->
   ∃l' cap' w',(Builtin.append_ #[t,t'] ty #[Y l cap n,x]).run P w= .ok (Y l' cap' (n+m)) w' /\xT w' T i.size l' cap' (n+m) (cells++news)/\Yj l w w' /\(∀b,l' =some b->l=some b\/w.heap.size<=b)/\(∀b,l=some b->l' ≠some b->w'.heap[b]? =w.heap[b]?):=by
  intro base olds hv he hg hf hcl
  subst he
  have hr:=run_append_grow_src (P:=P) w t t' ty T i zv M hi h3 base n cap olds hf x m news hs hg (by omega) (Y5 cap hg)
  have hge:=grownCap_ge w (n+m) cap T
  rw [<-hv]at hr
  refine⟨some w.heap.size,grownCap w (n+m) cap T,_,hr,⟨_,Az w.drew _,hge,grownCap_le_maxLen _ _ _ _ (by simp only [maxLen];omega),?_,?_⟩,⟨rfl,rfl,rfl,Nat.le_succ _,by simp,fun k hk _=>?_⟩,fun b H=> .inr (EF (nR H)),fun b H _=>?_⟩
  ·have:(Builtin.zeroCells zv.cells (grownCap w (n+m) cap T-(n+m))).size=(grownCap w (n+m) cap T-(n+m))*i.size:=by
    rw [size_zeroCells,h4];simp [hz2]
   simp only [Array.size_append,EQ,gA,hcl,hnl,this]
   rw [<-xX,<-xX]
   congr 1;omega
  ·have hl2:(olds++news).length=(n+m)*i.size:=by rw [gA,hcl,hnl,xX]
   rw [Array.toList_append,yc (by simp only [List.toList_toArray];omega)]
   simp only [List.toList_toArray]
   exact oB (by omega)
  ·exact nI (w:=w.drew) hk
  ·cases l with
   |none=>cases H
   |some b0=>
    have hb' :b0=b:=nR H
    subst hb'
    exact nI (w:=w.drew) (xT.lt h)
 cases l with
 |none=>
  obtain⟨rfl,rfl⟩:=h
  have:=run_append_grow_src (P:=P) w t t' ty T i zv M hi h3 none 0 0 [] (run_firstCells_none w.drew i.size 0 0 0) x m news hs (by omega) (by omega) (Y5 0 (by omega))
  have hge:=grownCap_ge w (0+m) 0 T
  refine⟨some w.heap.size,grownCap w (0+m) 0 T,_,this,⟨_,Az w.drew _,hge,grownCap_le_maxLen _ _ _ _ (by simp only [maxLen];omega),?_,?_⟩,⟨rfl,rfl,rfl,Nat.le_succ _,by simp,fun k hk _=>?_⟩,fun b H=> .inr (EF (nR H)),fun b H=>(by cases H)⟩
  ·have:(Builtin.zeroCells zv.cells (grownCap w (0+m) 0 T-(0+m))).size=(grownCap w (0+m) 0 T-(0+m))*i.size:=by
    rw [size_zeroCells,h4];simp [hz2]
   simp only [Array.size_append,EQ,pe,hnl,this]
   rw [<-xX]
   congr 1;omega
  ·rw [Array.toList_append,yc (by simp [hnl])]
   simp only [pe,rj]
   exact oB (by omega)
  ·exact nI (w:=w.drew) hk
 |some b=>
  obtain⟨cur,H,hle,hmax,hcs,hct⟩:=h
  have hcl:cells.length=n*i.size:=by
   rw [<-hct,ym,Fo,hcs]
   exact A7 (ya _ hle)
  by_cases hroom:n+m<=cap
  ·have hfit:n*i.size+news.length<=cur.size:=by rw [hnl,hcs,<-xX];exact ya _ hroom
   have hr:=Au (t:=t) (tx:=t') (ty:=ty) M hi H hs hroom hfit
   refine⟨some b,cap,_,hr,⟨_,setRow_heap w b cur _ T _ H,hroom,hmax,?_,?_⟩,⟨rfl,rfl,rfl,gu _,by simp [World.setRow],fun k hk hkb=>setRow_other w b k _ (fun e=>hkb (by rw [e]))⟩,fun b' hb' => .inl hb',fun b' hb' hne=>absurd hb' hne⟩
   ·simp only [EQ,gA,ym,Fn,Fo]
    omega
   ·rw [hct,xX,<-hnl,<-hcl,show cells.length+news.length=(cells++news).length from by simp]
    exact List.take_left
  ·refine fresh (some ⟨b,0,none⟩) cells rfl rfl (by omega) (run_firstCells_some w.drew i.size n ⟨b,0,none⟩ n cap cells hcl fun j v hv=>?_) hcl
   have hj:j<cells.length:=(o5.1 hv).1
   have hcell:w.cell? ⟨b,j,none⟩=cur[j]? :=Ad H j
   rw [iU]
   show w.cell? ⟨b,0+j,none⟩=_
   rw [rj,hcell]
   rw [<-hct,DA (by omega)]at hv
   simpa using hv
def yG{P:Program}{r:Rp α}{e' :TypeId}(M:P.underlying t' =some (.slice e'))(hs:lV w S)(hv:(K (fJ r) ys).p S v): ∃news,Src P r.sz t' v ys.length news w/\qc r S news ys:=by
 obtain⟨ad,c2,rfl,hcap,hmax,hsl⟩:=m4.1 hv
 rcases hsl with rfl|⟨b,off,c,U,fr,e1,e2,e3⟩
 ·refine⟨[],?_,rfl⟩
  cases ad with
  |none=>exact .ofNil w M c2
  |some a=>exact .ofSlice w M a 0 c2 [] (by simp) (fun j u hu=>by simp at hu) (fun u hu=>by cases hu)
 ·subst e1
  obtain⟨c',h4,h5⟩:=hs.part e2 (lx e3)
  refine⟨_,.ofSlice w M ⟨b,off,none⟩ ys.length c2 _ (lx e3) (fun j u hu=>?_) (CH e3),e3⟩
  rw [iU,Ad h4]
  rw [<-h5]at hu
  have hj:j<ys.length*r.sz:=by
   have:=(o5.1 hu).1
   simp at this;omega
  rw [DA hj,wz]at hu
  simpa using hu
variable{mm:Bool}
def yO{P:Program}{r:Rp α}{t ty:TypeId}{sz:Nat}{agg:Bool}{base:Nat}{B:Nat->Prop}(ti:TI P T sz bytes agg z)(hsz:r.sz=sz)(hz:Nat.beq z.length sz=true)(h0:Nat.blt 0 sz=true)(h128:Nat.ble bytes 2048=true)(M:P.underlying t=some (.slice T))(hs:lV w S)(h:(ku mm r T l cap xs).holds base B w S)(H:base<=w.heap.size)(hsrc:Src P r.sz t' v ys.length news w)(hrc:qc r S news ys)(hz' :lr xs ys=some zs):
  ∃l' cap' w' S',(Builtin.append_ #[t,t'] ty #[Y l cap xs.length,v]).run P w= .ok (Y l' cap' zs.length) w' /\kx (fun k=>l=some k) w S w' S' /\lV w' S' /\(ku mm r T l' cap' zs).holds base B w' S' /\(∀b,l' =some b->l=some b\/w.heap.size<=b):=by
 subst hsz
 obtain⟨rfl,hlen⟩:=VG hz'
 obtain⟨⟨cells,A,V,h3⟩,hbase⟩:=h
 obtain⟨l',cap',w',hr,hraw,hg,hnew,hold⟩:=GG (ty:=ty) ti hz h0 h128 M A hsrc hlen
 have hrc' :qc r S (cells++news) (xs++ys):=uE V hrc
 -- what stood settled stands
 have hsat0: ∀k o,S k=some o-> ∃o',w'.heap[k]? =some o' /\Io o o' :=fun k o hk=>by
  have hlt:=hs.lt hk
  by_cases hkl:l=some k
  ·obtain⟨o',e1,e2⟩:=hs k o hk
   by_cases hkl' :l' =some k
   ·subst hkl'
    subst hkl
    have h3' :=h3 k rfl
    cases mm with
    |false=>rw [h3']at hk;cases hk
    |true=>
     rw [h3']at hk
     cases hk
     obtain⟨cur',g1,g2,g3,g4,g5⟩:=hraw
     refine⟨_,g1,?_⟩;refine⟨news++cur'.toList.drop ((xs.length+ys.length)*r.sz),?_⟩
     congr 1
     apply Array.ext'
     rw [<-gI,<-g5,ra]
   ·rw [hold k hkl hkl'];exact hs k o hk
  ·rw [hg.heap k hlt hkl];exact hs k o hk
 have hsat:lV w' S:=⟨hsat0,hs.gl,hs.tb⟩
 have hSn: ∀b,l' =some b->l≠some b->S b=none:=fun b hb' hne=>by
  cases hq:S b with
  |none=>rfl
  |some q=>
   have:=hs.lt hq
   rcases hnew b hb' with h|h
   ·exact absurd h hne
   ·omega
 have hbase' : ∀k,l' =some k->base<=k\/B k:=fun k hk=>by
  rcases hnew k hk with h|h
  ·exact hbase k h
  ·exact .inl (by omega)
 have hz2:(xs++ys).length=xs.length+ys.length:=gA
 cases mm with
 |false=>
  refine⟨l',cap',w',S,by rw [hz2];exact hr,⟨hg.os,hg.tape,hg.output,hg.drawn,hg.size,fun k hk hkb=>hg.heap k hk hkb,SH.le_refl _,fun _ _ _=>rfl⟩,hsat,⟨⟨cells++news,by rw [hz2];exact hraw,hrc',fun b hb' =>?_⟩,hbase'⟩,hnew⟩
  by_cases hlb:l=some b
  ·exact h3 b hlb
  ·exact hSn b hb' hlb
 |true=>
  cases l' with
  |none=>
   refine⟨none,cap',w',S,by rw [hz2];exact hr,⟨hg.os,hg.tape,hg.output,hg.drawn,hg.size,fun k hk hkb=>hg.heap k hk hkb,SH.le_refl _,fun _ _ _=>rfl⟩,hsat,⟨⟨cells++news,by rw [hz2];exact hraw,hrc',fun b hb' =>(by cases hb')⟩,hbase'⟩,hnew⟩
  |some g=>
   have hq3: ∀q,S g=some q->Io q (.cells (cells++news).toArray T (0,0)):=fun q hq=>by
    by_cases hlb:l=some g
    ·have h4:S g=some (.cells cells.toArray T (0,0)):=h3 g hlb
     rw [h4]at hq
     cases hq
     exact⟨news,by simp⟩
    ·rw [hSn g rfl hlb]at hq;cases hq
   have hle:qT S (S.set g (.cells (cells++news).toArray T (0,0))):=Ah hq3
   obtain⟨cur',g1,g2,g3,g4,g5⟩:=hraw
   refine⟨some g,cap',w',S.set g (.cells (cells++news).toArray T (0,0)),by rw [hz2];exact hr,⟨hg.os,hg.tape,hg.output,hg.drawn,hg.size,fun k hk hkb=>hg.heap k hk hkb,hle,fun k hk hkb=>rM _ _ ?_⟩,hsat.set g1 ?_ hq3,⟨⟨cells++news,by rw [hz2];exact⟨cur',g1,g2,g3,g4,g5⟩,sB hle hrc',fun b hb' =>?_⟩,hbase'⟩,hnew⟩
   ·rintro rfl
    rcases hnew k rfl with h|h
    ·exact hkb h
    ·omega
   ·refine⟨cur'.toList.drop ((xs.length+ys.length)*r.sz),?_⟩
    congr 1
    apply Array.ext'
    rw [<-g5,ra]
   ·have hb2:g=b:=nR hb'
    subst hb2
    exact ox _ _ _

def PH{e f:OE}(h:e.apart f):f.apart e:=fun b H he=>h b he H
def du.swap{base:Nat}{B:Nat->Prop}{e f:OE}(h:du base B w S (e::f::O)):du base B w S (f::e::O):=by
 obtain⟨A,V,h3,h4,h5⟩:=h
 refine⟨h3,?_,A,?_,h5⟩
 ·intro g hg
  rcases f7.1 hg with rfl|hg
  ·exact PH (V _ (lg ..))
  ·exact h4 g hg
 ·intro g hg
  exact V g (li _ hg)
def mR{base:Nat}{B:Nat->Prop}{e:OE}{O' :List OE}(h:du base B w S (e::O))(k:du base B w S O->du base B w S O')(hm: ∀f∈O',f∈O):du base B w S (e::O'):=
 ⟨h.1,fun f hf=>h.2.1 f (hm f hf),k h.2.2⟩
def rO{base:Nat}{B:Nat->Prop}{a b c:OE}(h:du base B w S (a::b::c::O)):du base B w S (c::a::b::O):=
 (mR h du.swap (fun f hf=>by simp only [f7]at hf ⊢;rcases hf with h|h|h<;>simp [h])).swap
def uX{base:Nat}{B:Nat->Prop}{a b c aN:OE}(h:du base B w S (a::b::c::aN::O)):du base B w S (aN::a::b::c::O):=
 (mR h rO (fun f hf=>by simp only [f7]at hf ⊢;rcases hf with h|h|h|h<;>simp [h])).swap
def uW{base:Nat}{B:Nat->Prop}{a b c aN e:OE}(h:du base B w S (a::b::c::aN::e::O)):du base B w S (e::a::b::c::aN::O):=
 (mR h uX (fun f hf=>by simp only [f7]at hf ⊢;rcases hf with h|h|h|h|h<;>simp [h])).swap

section
variable{E:En}
def St.own_map{O' :List OE}(h:St E O G a w S)(k:du E.base E.B w S O->du E.base E.B w S O'):St E O' G a w S:=⟨h.ext,h.sat,k h.own,h.facts⟩
def St.base_le(h:St E O G a w S):E.base<=w.heap.size:=h.ext.size
def St.drop{e:OE}(h:St E (e::O) G a w S):St E O G a w S:=h.own_map fun h=>h.2.2
def St.fresh(mm:Bool)(r:Rp α)(T:TypeId)(h:St E O G a w S):St E (ku mm r T none 0 []::O) G a w S:=
 h.own_map fun h=>by refine⟨⟨⟨[],⟨rfl,rfl⟩,rfl,fun b H=>(by cases H)⟩,fun k hk=>?_⟩,fun f _ b H=>?_,h⟩<;>(first|cases hk|cases H)
def Bp{e:OE}{b:Nat}{o:Obj}(h:St E (e::O) G a w S)(H:e.fp b)(ho:w.heap[b]? =some o')(hoo:Io o o')(hn:S b=none):St E O G a w (S.set b o)/\qT S (S.set b o)/\kx (fun k=>k=b) w S w (S.set b o)/\lV w (S.set b o):=by
 have hbase:=h.own.1.2 b H
 have hle:qT S (S.set b o):=Ah fun q hq=>(by rw [hn]at hq;cases hq)
 have hsat:lV w (S.set b o):=h.sat.set ho hoo fun q hq=>by rw [hn]at hq;cases hq
 have hext:kx (fun k=>k=b) w S w (S.set b o):=⟨rfl,rfl,rfl,gu _,gu _,fun _ _ _=>rfl,hle,fun k _ hk=>rM _ _ hk⟩
 refine⟨⟨h.ext.step hext fun c hc=>by subst hc;exact hbase,hsat,h.own.2.2.ext hext fun f hf c hc hm=>?_,h.facts.mono hle⟩,hle,hext,hsat⟩
 subst hm
 exact h.own.2.1 f hf c H hc
def tO{α:Type}(r:Rp α)(l:Option Nat)(cap:Nat)(xs:List α):Ty where
 p:=fun S v=>v=Y l cap xs.length/\(K (fJ r) xs).p S v
 mono:=fun h ⟨A,V⟩=>⟨A,Ty.mono _ h V⟩
def Bi{N:Fr}{G:lY}{r:Rp α}(h:aL N G x (tO r l cap xs)):aL N G x (Z (Y l cap xs.length)):=fun S a hf=>(h S a hf).1
def tv{N:Fr}{G:lY}{r:Rp α}(h:aL N G x (tO r l cap xs)):aL N G x (K (fJ r) xs):=fun S a hf=>(h S a hf).2
def mq{r:Rp α}{w:World}{S:SH}(h:Ax true r T l cap xs w S):(K (fJ r) xs).p S (Y l cap xs.length):=by
 obtain⟨cells,A,V,h3⟩:=h
 cases l with
 |none=>
  have D:xs=[]:=wA A.1
  subst D
  exact Cr
 |some b=>
  obtain⟨cur,g1,g2,g3,g4,g5⟩:=A
  refine m4.2 ⟨_,cap,rfl,g2,g3,.inr ⟨b,0,cells.toArray,T,(0,0),rfl,h3 b rfl,?_⟩⟩
  have:=lx V
  rw [qh,oB (by simp [this])]
  exact V
def St.freeze{r:Rp α}(h:St E (dv r T l cap xs::O) G a w S):
  ∃S',St E (d r T l cap xs::O) G a w S' :=by
 obtain⟨⟨cells,A,V,h3⟩,hbase⟩:=h.own.1
 cases l with
 |none=>exact⟨S,h.ext,h.sat,⟨⟨⟨cells,A,V,fun b H=>(by cases H)⟩,hbase⟩,h.own.2⟩,h.facts⟩
 |some b=>
  obtain⟨cur,g1,g2,g3,g4,g5⟩:=A
  have hoo:Io (.cells cells.toArray T (0,0)) (.cells cur T (0,0)):=by
   refine⟨cur.toList.drop (xs.length*r.sz),?_⟩
   congr 1
   apply Array.ext'
   rw [<-g5,ra]
  obtain⟨h8,hle,_,_⟩:=Bp h rfl g1 hoo (h3 b rfl)
  refine⟨_,h8.ext,h8.sat,⟨⟨⟨cells,⟨cur,g1,g2,g3,g4,g5⟩,sB hle V,fun b' hb' =>?_⟩,hbase⟩,h.own.2.1,h8.own⟩,h8.facts⟩
  have hb2:b=b' :=nR hb'
  subst hb2
  exact ox _ _ _
def St.settle{r:Rp α}(h:St E (ku mm r T l cap xs::O) G a w S):
  ∃S',St E O G a w S' /\(K (fJ r) xs).p S' (Y l cap xs.length):=by
 cases mm with
 |true=>exact⟨S,h.drop,mq h.own.1.1⟩
 |false=>
  obtain⟨S',A⟩:=h.freeze
  exact⟨S',A.drop,mq A.own.1.1⟩
end

section
variable{E:En}{e:Exit}
def Pj{N:Fr}(h:de N S a G)(hk:t.p S (a.tmps.getD k undef)):de N S a ((k,t)::G):=
 ⟨h.size,h.defers,fun j u hj=>by
  unfold look at hj
  by_cases H:Nat.beq k j=true
  ·rw [H]at hj
   have:=pF H
   subst this
   rw [<-show t=u from by simpa using hj];exact hk
  ·rw [Dy]at H
   rw [H]at hj
   exact h.at_ j u hj⟩
def St.cons(h:St E O G a w S)(hk:t.p S (a.tmps.getD k undef)):St E O ((k,t)::G) a w S:=⟨h.ext,h.sat,h.own,Pj h.facts hk⟩
def St.tipAt{r:Rp α}{n:Nat}(h:St E (d r T l cap xs::O) G a w S)(hk:look G k=some (Z (Y l cap n)))(hn:n=xs.length):
  St E (d r T l cap xs::O) ((k,tO r l cap xs)::G) a w S:=by
 subst hn
 have hv:a.tmps.getD k undef=Y l cap xs.length:=h.facts.at_ k _ hk
 exact h.cons ⟨hv,by rw [hv];exact mq h.own.1.1⟩
def cM(mm:Bool)(r:Rp α)(T:TypeId)(h:RG E ops af rest (ku mm r T none 0 []::O) G):RG E ops af rest O G:=fun a w S st=>h a w S (st.fresh mm r T)
def ny{f:OE}(h:RG E ops af rest O G):RG E ops af rest (f::O) G:=fun a w S st=>h a w S st.drop
def CG.drop{f:OE}(h:CG E af c O G):CG E af c (f::O) G:=fun a w S st=>h a w S st.drop
def aZ{f:OE}(h:AT E af e O G):AT E af e (f::O) G:=fun a w S st=>h a w S st.drop
def cY{x y:OE}(h:RG E ops af rest (y::x::O) G):RG E ops af rest (x::y::O) G:=fun a w S st=>h a w S (st.own_map du.swap)
def dW{x y:OE}(h:AT E af e (y::x::O) G):AT E af e (x::y::O) G:=fun a w S st=>h a w S (st.own_map du.swap)
def gw{x y z:OE}(h:RG E ops af rest (z::x::y::O) G):RG E ops af rest (x::y::z::O) G:=fun a w S st=>h a w S (st.own_map rO)
def Tn{x y z:OE}(h:CG E af c (z::x::y::O) G):CG E af c (x::y::z::O) G:=fun a w S st=>h a w S (st.own_map rO)
def fF{x y z:OE}(h:AT E af e (z::x::y::O) G):AT E af e (x::y::z::O) G:=fun a w S st=>h a w S (st.own_map rO)
def jq{x y z:OE}(h:RG E ops af rest (u::x::y::z::O) G):RG E ops af rest (x::y::z::u::O) G:=fun a w S st=>h a w S (st.own_map uX)
def qa{x y z:OE}(h:AT E af e (u::x::y::z::O) G):AT E af e (x::y::z::u::O) G:=fun a w S st=>h a w S (st.own_map uX)
def ui{x y z v:OE}(h:RG E ops af rest (v::x::y::z::u::O) G):RG E ops af rest (x::y::z::u::v::O) G:=fun a w S st=>h a w S (st.own_map uW)
def o3{x y z v:OE}(h:AT E af e (v::x::y::z::u::O) G):AT E af e (x::y::z::u::v::O) G:=fun a w S st=>h a w S (st.own_map uW)
def F3{f:OE}(h:LG E af c O G):LG E af c (f::O) G:=fun a w S st=>h a w S st.drop
def gx{x y:OE}(h:LG E af c (y::x::O) G):LG E af c (x::y::O) G:=fun a w S st=>h a w S (st.own_map du.swap)
def jt{x y z:OE}(h:LG E af c (z::x::y::O) G):LG E af c (x::y::z::O) G:=fun a w S st=>h a w S (st.own_map rO)
def oY{x y z:OE}(h:LG E af c (u::x::y::z::O) G):LG E af c (x::y::z::u::O) G:=fun a w S st=>h a w S (st.own_map uX)
def EB{x y z v:OE}(h:LG E af c (v::x::y::z::u::O) G):LG E af c (x::y::z::u::v::O) G:=fun a w S st=>h a w S (st.own_map uW)
def jr{r:Rp α}(h:RG E ops af rest (d r T l cap xs::O) G):RG E ops af rest (dv r T l cap xs::O) G:=fun a w _ st=>let⟨S',st'⟩:=st.freeze;h a w S' st'
def Ia{r:Rp α}{n:Nat}(k:Nat)(hk:look G k=some (Z (Y l cap n)))(h:RG E ops af rest (d r T l cap xs::O) ((k,tO r l cap xs)::G))(hn:n=xs.length:=by rfl):RG E ops af rest (d r T l cap xs::O) G:=fun a w S st=>h a w S (st.tipAt hk hn)
def VV{r:Rp α}{n:Nat}(k:Nat)(hk:look G k=some (Z (Y l cap n)))(h:CG E af c (d r T l cap xs::O) ((k,tO r l cap xs)::G))(hn:n=xs.length:=by rfl):CG E af c (d r T l cap xs::O) G:=fun a w S st=>h a w S (st.tipAt hk hn)
def Al{r:Rp α}(h:AT E af e (d r T l cap xs::O) G):AT E af e (dv r T l cap xs::O) G:=fun a w _ st=>let⟨S',st'⟩:=st.freeze;h a w S' st'
def mS{r:Rp α}{n:Nat}(k:Nat)(hk:look G k=some (Z (Y l cap n)))(h:AT E af e (d r T l cap xs::O) ((k,tO r l cap xs)::G))(hn:n=xs.length:=by rfl):AT E af e (d r T l cap xs::O) G:=fun a w S st=>h a w S (st.tipAt hk hn)
def Tk{r:Rp α}(h:LG E af c (d r T l cap xs::O) G):LG E af c (dv r T l cap xs::O) G:=fun a w _ st=>let⟨S',st'⟩:=st.freeze;h a w S' st'
def VQ{r:Rp α}{n:Nat}(k:Nat)(hk:look G k=some (Z (Y l cap n)))(h:LG E af c (d r T l cap xs::O) ((k,tO r l cap xs)::G))(hn:n=xs.length:=by rfl):LG E af c (d r T l cap xs::O) G:=fun a w S st=>h a w S (st.tipAt hk hn)
def bE{r:Rp α}(hk:look G k=some (K (fJ r) xs))(h:xs.length<=maxLen->CG E af c O G):CG E af c O G:=fun a w S st=>by
 obtain⟨_,_,_,A,V,_⟩:=m4.1 (st.facts.at_ k _ hk)
 exact h (nA A V) a w S st

section
variable{ty:TypeId}
def St.append{r:Rp α}{t ty:TypeId}{sz:Nat}{agg:Bool}(ti:TI E.P T sz bytes agg z)(hsz:r.sz=sz)(hz:Nat.beq z.length sz=true)(h0:Nat.blt 0 sz=true)(h128:Nat.ble bytes 2048=true)(M:E.P.underlying t=some (.slice T))(st:St E (ku mm r T l cap xs::O) G a w S)(hsrc:Src E.P r.sz t' v ys.length news w)(hrc:qc r S news ys)(happ:lr xs ys=some zs):
  ∃l' cap' w' S',(Builtin.append_ #[t,t'] ty #[Y l cap xs.length,v]).run E.P w= .ok (Y l' cap' zs.length) w' /\St E (ku mm r T l' cap' zs::O) G a w' S' :=by
 obtain⟨l',cap',w',S',hr,hext,hsat,hh,hnew⟩:=yO (ty:=ty) ti hsz hz h0 h128 M st.sat st.own.1 st.base_le hsrc hrc happ
 refine⟨l',cap',w',S',hr,st.ext.step hext fun b H=>st.own.1.2 b H,hsat,⟨hh,fun f hf b H hfb=>?_,st.own.2.2.ext hext fun f hf b H hbl=>st.own.2.1 f hf b hbl H⟩,st.facts.mono hext.keep⟩
 rcases hnew b H with h|h
 ·exact st.own.2.1 f hf b h hfb
 ·have:=f.here (du.mem st.own.2.2 f hf).1 b hfb
  omega
def St.put{aN:Nat}(h:St E O G a w S)(hd:Nat.blt aN E.N.n=true)(hv:t.p S v):St E O ((aN,t)::G) (a.put (some aN) v) w S:=⟨h.ext,h.sat,h.own,h.facts.put hd hv⟩
def BU{r:Rp α}{t:TypeId}{sz:Nat}{agg:Bool}{n:Nat}{u:Nat->Option Nat->Ty}(ti:TI E.P T sz bytes agg z)(hsz:r.sz=sz)(hz:Nat.beq z.length sz=true)(h0:Nat.blt 0 sz=true)(h128:Nat.ble bytes 2048=true)(M:E.P.underlying t=some (.slice T))(hd:Nat.blt aN E.N.n=true)(D:aL E.N G x (Z (Y l cap n)))(hy: ∀a w S,St E (ku mm r T l cap xs::O) G a w S-> ∃news,Src E.P r.sz t' (a.eval y) ys.length news w/\qc r S news ys)(happ:lr xs ys=some zs)(hu: ∀l' cap' w0 S,(ku mm r T l' cap' zs).p w0 S->(u cap' l').p S (Y l' cap' zs.length))(k: ∀l' cap',RG E ops af rest (ku mm r T l' cap' zs::O) ((aN,u cap' l')::G))(hn:n=xs.length):
  RG E ops af (⟨some aN,.call ⟨.builtin .append,#[x,y],#[t,t']⟩,ty,pos,after,none⟩::rest) (ku mm r T l cap xs::O) G:= .of rfl fun a w S st=>by
 subst hn
 have A:a.eval x=Y l cap xs.length:=D S a st.facts
 obtain⟨news,V,h3⟩:=hy a w S st
 obtain⟨l',cap',w',S',hr,st'⟩:=st.append (ty:=ty) ti hsz hz h0 h128 M V h3 happ
 have hrun:(execOp a.eval ⟨some aN,.call ⟨.builtin .append,#[x,y],#[t,t']⟩,ty,pos,after,none⟩).run E.P w= .ok (.value (Y l' cap' zs.length)) w' :=by
  simp [execOp,resolve,invoke,builtin,A,hr]
 refine⟨fun c h=>(by cases h),?_⟩
 rw [hrun]
 exact k l' cap' _ _ S' (st'.put hd (hu l' cap' w' S' st'.own.1.1))
def gM{r:Rp α}{t:TypeId}{sz:Nat}{agg:Bool}{n:Nat}(ti:TI E.P T sz bytes agg z)(hsz:r.sz=sz)(hz:Nat.beq z.length sz=true)(h0:Nat.blt 0 sz=true)(h128:Nat.ble bytes 2048=true)(M:E.P.underlying t=some (.slice T))(ht' :t' =t)(hd:Nat.blt aN E.N.n=true)(D:aL E.N G x (Z (Y l cap n)))(hy:aL E.N G y (K (fJ r) ys))(happ:lr xs ys=some zs)(k: ∀l' cap',RG E ops af rest (dv r T l' cap' zs::O) ((aN,Z (Y l' cap' zs.length))::G))(hn:n=xs.length:=by rfl):
  RG E ops af (⟨some aN,.call ⟨.builtin .append,#[x,y],#[t,t']⟩,ty,pos,after,none⟩::rest) (dv r T l cap xs::O) G:=by
 subst ht'
 exact BU (u:=fun cap' l' =>Z (Y l' cap' zs.length)) ti hsz hz h0 h128 M hd D (fun a w S st=>yG M st.sat (hy S a st.facts)) happ (fun _ _ _ _ _=>rfl) k hn
def uU{r:Rp α}{t:TypeId}{sz:Nat}{agg:Bool}(ti:TI E.P T sz bytes agg z)(hsz:r.sz=sz)(hz:Nat.beq z.length sz=true)(h0:Nat.blt 0 sz=true)(h128:Nat.ble bytes 2048=true)(M:E.P.underlying t=some (.slice T))(ht' :t' =t)(hd:Nat.blt aN E.N.n=true)(D:aL E.N G x (tO r l cap xs))(hy:aL E.N G y (K (fJ r) ys))(happ:lr xs ys=some zs)(k: ∀l' cap',RG E ops af rest (d r T l' cap' zs::O) ((aN,tO r l' cap' zs)::G)):
  RG E ops af (⟨some aN,.call ⟨.builtin .append,#[x,y],#[t,t']⟩,ty,pos,after,none⟩::rest) (d r T l cap xs::O) G:=by
 subst ht'
 exact BU (u:=fun cap' l' =>tO r l' cap' zs) ti hsz hz h0 h128 M hd (Bi D) (fun a w S st=>yG M st.sat (hy S a st.facts)) happ (fun _ _ _ _ h=>⟨rfl,mq h⟩) k rfl
end
end

def CZ(off:Nat): ∀(cs:List Value) (k:Nat) (pre mid post:List Value),mid.length=cs.length->pre.length=off+k->
  (cs.zipIdx k).foldl (fun(a:Array Value) x=>a.setIfInBounds (off+x.2) x.1) (pre++mid++post).toArray=(pre++cs++post).toArray
 |[],k,pre,mid,post,hm,_=>by
  have:mid=[]:=wA hm
  subst this;simp
 |c::cs,k,pre,mid,post,hm,hp=>by
  cases mid with
  |nil=>simp at hm
  |cons m mid=>
   simp only [List.zipIdx_cons,List.foldl_cons]
   have A:(pre++(m::mid)++post).toArray.setIfInBounds (off+k) c=((pre++[c])++mid++post).toArray:=by
    rw [<-hp]
    simp
   rw [A,CZ off cs (k+1) (pre++[c]) mid post (by simpa using hm) (by simp;omega)]
   simp
def Cv(v:Value)(off:Nat)(pre mid post:List Value)(hm:mid.length=v.cells.size)(hp:pre.length=off):
  v.cells.zipIdx.foldl (fun cs (x:Value×Nat)=>cs.setIfInBounds (off+x.2) x.1) (pre++mid++post).toArray=(pre++v.cells.toList++post).toArray:=by
 have:=CZ off v.cells.toList 0 pre mid post (by simpa using hm) (by simpa using hp)
 rw [<-this,<-Array.foldl_toList]
 simp [Array.toList_zipIdx]
def wd{r:Rp α}{x:α}(h:r.rc S cs x):(r.val cs).cells=cs.toArray:=by
 unfold Rp.val
 cases ha:r.agg with
 |true=>simp [Value.cells]
 |false=>
  have hl:=r.len h
  rw [r.sc ha]at hl
  match cs,hl with
  |[c],_=>
   have:=r.one h c (by simp)
   cases c<;>simp_all [Value.cells,Value.oneCell']
def Fg:Nat->List Value->List (Nat×Value)
 |_,[]=>[]
 |k,v::vs=>(k,v)::Fg (k+1) vs
def Hz{α:Type}{r:Rp α}{S:SH}: ∀(ys:List α) (vs:List Value) (k:Nat) (pre zs:List Value),Ay S (ys.map (K r)) vs->pre.length=k*r.sz->zs.length=ys.length*r.sz->
  ∃cs,qc r S cs ys/\Instr.fill (fun i=>some (i*r.sz,r.sz)) (pre++zs).toArray (Fg k vs)=some (pre++cs).toArray
 |[],[],k,pre,zs,_,_,hz=>by
  have:zs=[]:=wA (by simpa using hz)
  subst this
  exact⟨[],rfl,by simp [Fg,Instr.fill]⟩
 |y::ys,v::vs,k,pre,zs,⟨⟨c,e,hc⟩,V⟩,hp,hz=>by
  have hl:=r.len hc
  have hz' :r.sz<=zs.length:=by rw [hz,iZ,xX];omega
  have e1:zs=zs.take r.sz++zs.drop r.sz:=(ra _ _).symm
  have hcells:v.cells=c.toArray:=by rw [e];exact wd hc
  obtain⟨cs,h3,h4⟩:=Hz ys vs (k+1) (pre++c) (zs.drop r.sz) V (by rw [gA,hp,hl,xX];omega) (by rw [Fn,hz,iZ,xX];omega)
  refine⟨c++cs,⟨c,cs,rfl,hc,h3⟩,?_⟩
  have hs:v.cells.size=r.sz:=by rw [hcells];simpa using hl
  have hcond: ¬((v.cells.size≠r.sz)\/(k*r.sz+v.cells.size>(pre++zs).toArray.size)):=by
   simp [hs];omega
  have h5:=Cv v (k*r.sz) pre (zs.take r.sz) (zs.drop r.sz) (by simp [hs];omega) hp
  rw [gI,<-e1]at h5
  simp only [Fg,Instr.fill]
  rw [bm (by simpa using hcond)]
  rw [h5,hcells]
  simpa using h4
def AZ:Nat->List Operand->List (Nat×Operand)
 |_,[]=>[]
 |k,v::vs=>(k,v)::AZ (k+1) vs
def Ev(ρ:Operand->Value): ∀(k:Nat) (xs:List Operand),(AZ k xs).map (fun x=>(x.1,ρ x.2))=Fg k (xs.map ρ)
 |_,[]=>rfl
 |k,x::xs=>by simp [AZ,Fg,Ev ρ (k+1) xs]

section
variable{E:En}{ty:TypeId}
def yN{P:Program}{r:Rp α}{xs:List Operand}{ρ:Operand->Value}{t:TypeId}{n sz:Nat}{agg:Bool}(M:P.underlying t=some (.slice T))(ti:TI P T sz bytes agg z)(hsz:r.sz=sz)(hn:n=ys.length)(H:Nat.ble (n*sz) 16777216=true)(D:Ay S (ys.map (K r)) (xs.map ρ))(w:World):
  ∃cs,qc r S cs ys/\(Instr.buildSlice t n ((AZ 0 xs).toArray.map fun x=>(x.1,ρ x.2))).run P w= .ok (.slice (some ⟨w.heap.size,0,none⟩) n n) (w.alloc (.cells cs.toArray T (0,0))):=by
 subst hsz
 have hb' :=rm H
 obtain⟨zv,hzr,_⟩:=ti.zero w
 obtain⟨cs,hc,hfill⟩:=Hz ys (xs.map ρ) 0 [] ((Array.range (n*r.sz)).map (fun i=>(if n*r.sz=0 then #[]else zv.cells)[i%(if n*r.sz=0 then #[]else zv.cells).size]!)).toList D (by simp) (by simp [hn])
 refine⟨cs,hc,?_⟩
 have hparts:((AZ 0 xs).toArray.map fun x=>(x.1,ρ x.2)).toList=Fg 0 (xs.map ρ):=by simp [Ev]
 simp only [pe,Array.toArray_toList]at hfill
 have hle: ¬(n*r.sz>2^24):=by omega
 by_cases hn0:n*r.sz=0
 ·simp only [hn0,i8]at hfill
  simp only [Instr.buildSlice,qZ,jx M,sq,ti.sizeOf,Sem.run_ite,hn0,i8,EK,hparts,hfill]
  simp [newRow]
 ·simp only [hn0,jB]at hfill
  simp only [Instr.buildSlice,qZ,jx M,sq,ti.sizeOf,Sem.run_ite,hle,jB,hn0,EK,hzr,hparts,hfill]
  simp [newRow]
def bI{r:Rp α}{xs:List Operand}{parts:List (Nat×Operand)}{t:TypeId}{n sz:Nat}{agg:Bool}(M:E.P.underlying t=some (.slice T))(ti:TI E.P T sz bytes agg z)(hsz:r.sz=sz)(h0:Nat.blt 0 sz=true)(hp:parts=AZ 0 xs)(hn:n=ys.length)(H:Nat.ble (n*sz) 16777216=true)(D:j3 E.N G xs (ys.map (K r))):ce E O G ⟨dst,.buildSlice t n parts.toArray,ty,pos,after,g⟩ (K (fJ r) ys):=
 .of_run fun a w S hs _ hf=>by
  obtain⟨cs,hc,hr⟩:=yN M ti hsz hn H (D.tys hf) w
  subst hsz
  have hb' :=rm H
  have h0' :0<r.sz:=by simpa [sr] using h0
  have hnle:n<=n*r.sz:=Nat.le_mul_of_pos_right n h0'
  obtain⟨he,hs'⟩:=vF (w:=w) (.cells cs.toArray T (0,0)) hs
  have hcl:=lx hc
  refine⟨.slice (some ⟨w.heap.size,0,none⟩) n n,_,_,?_,he,hs',m4.2 ⟨_,n,by rw [hn],by omega,by simp only [maxLen];omega,.inr ⟨w.heap.size,0,cs.toArray,T,(0,0),rfl,by simp [SH.set],?_⟩⟩⟩
  ·subst hp
   simp only [execOp,qZ,hr,sq,EK]
  ·have:qc r (S.set w.heap.size (.cells cs.toArray T (0,0))) cs ys:=sB he.keep hc
   simpa [<-hcl] using this
def OF{r:Rp α}{v:α}(D:aL E.N G x (K r v)):ce E O G ⟨dst,.box T x,ty,pos,after,g⟩ (bt r v):=
 .of_run fun a w S hs _ hf=>by
  obtain⟨cs,hv,hc⟩:=D S a hf
  obtain⟨he,hs'⟩:=vF (w:=w) (.cells cs.toArray T (0,0)) hs
  refine⟨.pointer (some ⟨w.heap.size,0,none⟩),_,_,?_,he,hs',w.heap.size,0,cs.toArray,T,(0,0),rfl,by simp [SH.set],?_⟩
  ·simp [execOp,Instr.box,newVar,newRow,hv,wd hc]
  ·have:=r.mono he.keep hc
   have hl:=r.len hc
   simpa [<-hl] using this
end

def pG(c:Bool)(t:Ty):Ty where
 p:=fun S v=>if c=true then t.p S v else v=undef
 mono:=fun h k=>by
  split
  ·rename_i hc;rw [bv hc]at k;exact t.mono h k
  ·rename_i hc;rw [bm hc]at k;exact k
variable{pol:Bool}
section
variable{E:En}
def df{N:Fr}{c:Bool}(h:look G k=some (pG c t))(hc:c=true):aL N G (.tmp k) t:=fun _ _ hF=>by
 have V:if c=true then t.p _ (Act.eval _ (.tmp k))else _=undef:=hF.at_ k _ h
 rw [bv hc]at V;exact V
def vo(c b:Bool):Ty:=pG c (K rB b)
def vn(h:look G k=some (K rB b)):aL E.N G (.tmp k) (vo true b):=fun _ _ hF=>by
 have V:(K rB b).p _ (Act.eval _ (.tmp k)):=hF.at_ k _ h
 simp only [vo,pG,i8]
 exact V
def Jx{c:Bool}(h:look G k=some (pG c (K rB b))):aL E.N G (.tmp k) (vo c b):=fun _ _ hF=>hF.at_ k _ h
def Gi{c:Bool}(hg:o.guard=some (j,pol))(hj:(ops[j]?).bind (·.dst)=some gs)(hn:gs<a.tmps.size)(hv:(vo c b).p S (a.tmps.getD gs undef)):
  Region.wanted o (yielded ops a.tmps)=(c&&(b==pol)):=by
 have hget:a.tmps[gs]? =some (a.tmps.getD gs undef):=by
  rw [JZ,Array.getElem?_eq_getElem hn];rfl
 unfold Region.wanted
 rw [hg]
 simp only [yielded,hj,aV,hget]
 cases c with
 |true=>
  have:a.tmps.getD gs undef= .bool b:=jy.1 (by simpa [vo,pG] using hv)
  rw [this]
  cases b<;>cases pol<;>rfl
 |false=>
  have:a.tmps.getD gs undef=undef:=by simpa [vo,pG] using hv
  rw [this]
  cases pol<;>rfl
def Lk{c:Bool}{op:Op}{ty:TypeId}(hj:(ops[j]?).bind (·.dst)=some gs)(hgs:Nat.blt gs E.N.n=true)(hg:aL E.N G (.tmp gs) (vo c b))(hd:Nat.blt aN E.N.n=true)(h:(c&&(b==pol))=true->ce E O G ⟨some aN,op,ty,pos,after,some (j,pol)⟩ t)(k:RG E ops af rest O ((aN,pG (c&&(b==pol)) t)::G)):
  RG E ops af (⟨some aN,op,ty,pos,after,some (j,pol)⟩::rest) O G:=fun a w S st=>by
 have hgs' :gs<a.tmps.size:=by rw [st.facts.size];simpa [sr] using hgs
 have hw:=Gi (o:=⟨some aN,op,ty,pos,after,some (j,pol)⟩) rfl hj hgs' (hg S a st.facts)
 refine wpListIn_step fun tD hK=>?_
 rw [hw]
 by_cases hc:(c&&(b==pol))=true
 ·rw [bv hc]
  refine lv (fun a' w' ⟨v,S',ha,he,hs,hv⟩=>?_) (h hc a w S st.sat st.own st.facts)
  subst ha
  refine hK _ _ (k _ _ _ (st.step he hs hd ?_))
  simpa only [pG,hc,i8] using hv
 ·rw [bm hc]
  refine⟨fun _ _=>trivial,hK _ _ (k _ _ S (st.step (kx.refl _ _ _) st.sat hd ?_))⟩
  show if _ then _ else _
  rw [bm hc]
end

structure Nd where
 slot:Nat
 ty:Ty
 src:Option Nat
def bj(E:En)(O:List OE)(ops:Array Oper)(need:lY)(o:Oper)(t:Ty):Prop:=
 ∀a w S,lV w S->du E.base E.B w S O->de E.N S a need->
  if Region.wanted o (yielded ops a.tmps)then Ma E.P o a w (fun a' w' => ∃v S',a' =a.put o.dst v/\kx uc w S w' S' /\lV w' S' /\t.p S' v)else t.p S undef
def j9:List Nd->lY
 |[]=>[]
 |n::l=>(n.slot,n.ty)::j9 l
def EU(o:Oper)(j:Nat):Bool:=o.after.toList.any fun e=>Nat.beq e.on j&&Region.binds .any e
def pH(l:List Oper)(o:Oper)(i:Nat)(n:Nd):Bool:=
 match n.src with
 |some j=>(match l[j]? with|some p=>(match p.dst with|some aN=>Nat.beq aN n.slot|none=>false)|none=>false)&&EU o j
 |none=>l.all fun p=>(match p.dst with|some aN=> !(Nat.beq aN n.slot)|none=>true)||EU p i
def Dt(G:lY)(ts:List Ty)(n:Nd):Prop:=
 match n.src with
 |some j=>ts[j]? =some n.ty
 |none=>look G n.slot=some n.ty
def tm(G:lY)(ts:List Ty):List Nd->Prop
 |[]=>True
 |n::l=>Dt G ts n/\tm G ts l
def tm.mem: ∀{l:List Nd},tm G ts l-> ∀n∈l,Dt G ts n
 |_::_,⟨h,_⟩,_,.head _=>h
 |_::_,⟨_,h⟩,_,.tail _ hm=>tm.mem h _ hm
def Xv(o:Oper):Nat:=o.dst.getD 0
def fK(i:Nat)(o:Oper):Bool:=o.after.toList.all fun e=> !(Region.binds .any e)||Nat.blt e.on i
def DR(E:En)(O:List OE)(G:lY)(l:List Oper)(ts:List Ty):Nat->List Oper->Prop
 |_,[]=>True
 |i,o::rest=>(∃(needs:List Nd) (t:Ty),ts[i]? =some t/\tm G ts needs/\(needs.all (pH l o i))=true/\fK i o=true/\bj E O l.toArray (j9 needs) o t)/\DR E O G l ts (i+1) rest
def wE(N:Nat):List Nat->List Oper->Bool
 |_,[]=>true
 |seen,o::rest=>(match o.dst with|some aN=>Nat.blt aN N&& !(seen.any (Nat.beq aN))&&wE N (aN::seen) rest|none=>false)
def adH(E:En)(O:List OE)(G:lY)(l:List Oper)(ts:List Ty)(i:Nat)(o:Oper):Prop:=
 ∃(needs:List Nd) (t:Ty),ts[i]? =some t/\tm G ts needs/\(needs.all (pH l o i))=true/\fK i o=true/\bj E O l.toArray (j9 needs) o t
def DR.get{E:En}{l:List Oper}(r:List Oper): ∀(k:Nat),DR E O G l ts k r-> ∀(j:Nat) (o:Oper),r[j]? =some o->adH E O G l ts (k+j) o:=by
 induction r with
 |nil=>intro k _ j o h;simp at h
 |cons p r ih=>
  intro k h j o ho
  cases j with
  |zero=>simp at ho;subst ho;exact h.1
  |succ j=>
   have:=ih (k+1) h.2 j o (by simpa using ho)
   rwa [show k+1+j=k+(j+1)from by omega]at this
def yH{N:Nat}(l:List Oper): ∀(seen:List Nat),wE N seen l=true->
  (∀o:Oper,o∈l-> ∃aN,o.dst=some aN/\aN<N/\aN∉seen)/\ ∀(i j:Nat) (o p:Oper),l[i]? =some o->l[j]? =some p->o.dst=p.dst->i=j:=by
 induction l with
 |nil=>exact fun _ _=>⟨fun _ h=>(by cases h),fun _ _ _ _ h=>(by simp at h)⟩
 |cons o l ih=>
  intro seen h
  unfold wE at h
  cases hd:o.dst with
  |none=>rw [hd]at h;cases h
  |some aN=>
   rw [hd]at h
   simp only [gQ,yn]at h
   obtain⟨⟨A,V⟩,h3⟩:=h
   have h2' :aN∉seen:=fun hm=>by
    rw [List.any_eq_false]at V
    exact V aN hm (by simp)
   obtain⟨ih1,ih2⟩:=ih _ h3
   refine⟨fun q hq=>?_,fun i j q p hi hj hdp=>?_⟩
   ·rcases f7.1 hq with rfl|hq
    ·exact⟨aN,hd,by simpa [sr] using A,h2'⟩
    ·obtain⟨d',e1,e2,e3⟩:=ih1 q hq
     exact⟨d',e1,e2,fun hm=>e3 (li _ hm)⟩
   ·cases i with
    |zero=>
     cases j with
     |zero=>rfl
     |succ j=>
      simp at hi hj
      subst hi
      obtain⟨d',e1,_,e3⟩:=ih1 p (sR hj)
      rw [hd,e1]at hdp
      have e4:aN=d' :=by simpa using hdp
      exact absurd (by rw [e4];exact lg ..) e3
    |succ i=>
     cases j with
     |zero=>
      simp at hi hj
      subst hj
      obtain⟨d',e1,_,e3⟩:=ih1 q (sR hi)
      rw [hd,e1]at hdp
      have e4:d' =aN:=by simpa using hdp
      exact absurd (by rw [e4];exact lg ..) e3
     |succ j=>rw [ih2 i j q p (by simpa using hi) (by simpa using hj) hdp]

structure DJ(E:En)(O:List OE)(G:lY)(l:List Oper)(ts:List Ty)(done:Array Bool)(a:Act)(w:World)(S:SH):Prop where
 ext:kx E.B E.w0 E.S0 w S
 sat:lV w S
 own:du E.base E.B w S O
 size:a.tmps.size=E.N.n
 defers:a.defers=E.N.ds
 dsz:done.size=l.length
 down: ∀j o,l[j]? =some o->done.getD j false=true-> ∀e∈o.after,Region.binds .any e=true->done.getD e.on false=true
 old: ∀k t,look G k=some t->(∀j o,l[j]? =some o->done.getD j false=true->o.dst≠some k)->t.p S (a.tmps.getD k undef)
 new: ∀j o aN t,l[j]? =some o->done.getD j false=true->o.dst=some aN->ts[j]? =some t->t.p S (a.tmps.getD aN undef)
def DJ.need{E:En}{l:List Oper}(h:DJ E O G l ts done a w S)(hi:l[i]? =some o)(hun:done.getD i true=false)(hwait: ∀e∈o.after,Region.binds .any e=true->done.getD e.on false=true){needs:List Nd}(A:tm G ts needs)(V:(needs.all (pH l o i))=true):de E.N S a (j9 needs):=by
 have hlt:i<done.size:=by rw [h.dsz];exact(o5.1 hi).1
 have hun' :done.getD i false=false:=by
  simp [hlt]at hun ⊢;exact hun
 refine⟨h.size,h.defers,?_⟩
 have key: ∀n∈needs,n.ty.p S (a.tmps.getD n.slot undef):=by
  intro n hn
  have hs:=mZ.1 V n hn
  have ho:=A.mem n hn
  unfold pH at hs
  unfold Dt at ho
  cases hsrc:n.src with
  |some j=>
   rw [hsrc]at hs ho
   simp only [gQ]at hs
   obtain⟨hs1,hs2⟩:=hs
   cases hj:l[j]? with
   |none=>rw [hj]at hs1;cases hs1
   |some p=>
    rw [hj]at hs1
    cases hd:p.dst with
    |none=>simp only [hd]at hs1;cases hs1
    |some aN=>
     simp only [hd]at hs1
     have hd' :=pF hs1
     subst hd'
     have hdone:done.getD j false=true:=by
      unfold EU at hs2
      obtain⟨e,he0,H⟩:=Dx.1 hs2
      have he:e∈o.after:=by simpa using he0
      simp only [gQ]at H
      have:=hwait e he H.2
      rwa [pF H.1]at this
     exact h.new j p n.slot n.ty hj hdone hd ho
  |none=>
   rw [hsrc]at hs ho
   refine h.old _ _ ho fun j p hj hdone hd=>?_
   have:=mZ.1 hs p (sR hj)
   simp only [hd,Nat.beq_refl,qg,An]at this
   unfold EU at this
   obtain⟨e,he0,H⟩:=Dx.1 this
   have he:e∈p.after:=by simpa using he0
   simp only [gQ]at H
   have h3:=h.down j p hj hdone e he H.2
   rw [pF H.1]at h3
   rw [h3]at hun'
   cases hun'
 clear A V
 intro k t hk
 induction needs with
 |nil=>simp [j9,look]at hk
 |cons n needs ih=>
  unfold j9 look at hk
  by_cases H:Nat.beq n.slot k=true
  ·rw [H]at hk
   have:=pF H
   subst this
   have e:n.ty=t:=by simpa using hk
   rw [<-e]
   exact key n (lg ..)
  ·rw [Dy]at H
   rw [H]at hk
   exact ih (fun m hm=>key m (li _ hm)) hk
def Oz:List Oper->List Ty->lY->lY
 |o::l,t::ts,G=>(Xv o,t)::Oz l ts G
 |_,_,G=>G
def Jo(l:List Oper): ∀(ts:List Ty) (k:Nat) (t:Ty),(∀o:Oper,o∈l->o.dst≠none)->ts.length=l.length->look (Oz l ts G) k=some t->
  (∃(j:Nat) (o:Oper),l[j]? =some o/\o.dst=some k/\ts[j]? =some t)\/(look G k=some t/\ ∀o:Oper,o∈l->o.dst≠some k):=by
 induction l with
 |nil=>
  intro ts k t _ hl h
  have:ts=[]:=wA (by simpa using hl)
  subst this
  exact .inr ⟨h,fun _ h=>(by cases h)⟩
 |cons o l ih=>
  intro ts k t hne hl h
  cases ts with
  |nil=>simp at hl
  |cons u ts=>
   unfold Oz look at h
   by_cases H:Nat.beq (Xv o) k=true
   ·rw [H]at h
    have hk:=pF H
    refine .inl ⟨0,o,rfl,?_,by simpa using h⟩
    cases hd:o.dst with
    |none=>exact absurd hd (hne o (lg ..))
    |some aN=>simp only [Xv,hd,Option.getD_some]at hk;rw [hk]
   ·rw [Dy]at H
    rw [H]at h
    rcases ih ts k t (fun p hp=>hne p (li _ hp)) (by simpa using hl) h with⟨j,p,A,V,h3⟩|⟨A,V⟩
    ·exact .inl ⟨j+1,p,by simpa using A,V,by simpa using h3⟩
    ·refine .inr ⟨A,fun p hp hd=>?_⟩
     rcases f7.1 hp with rfl|hp
     ·simp [Xv,hd]at H
     ·exact V p hp hd
def vg(hd:aN<a.tmps.size):(a.put (some aN) v).tmps.getD k undef=if aN=k then v else a.tmps.getD k undef:=by
 by_cases h:aN=k
 ·subst h;simp [Act.put,JZ,hd]
 ·simp [Act.put,JZ,h]
def DJ.step{E:En}{l:List Oper}(h:DJ E O G l ts done a w S)(hsl:wE E.N.n [] l=true)(hi:l[i]? =some o)(hwait: ∀e∈o.after,Region.binds .any e=true->done.getD e.on false=true)(M:ts[i]? =some t)(hun:done.getD i true=false)(hext:kx uc w S w' S')(hsat:lV w' S')(hv:t.p S' v):DJ E O G l ts (done.setIfInBounds i true) (a.put o.dst v) w' S' :=by
 obtain⟨hs1,hs2⟩:=yH l [] hsl
 obtain⟨aN,hd,hdN,_⟩:=hs1 o (sR hi)
 have hda:aN<a.tmps.size:=by rw [h.size];exact hdN
 have hlt:i<done.size:=by rw [h.dsz];exact(o5.1 hi).1
 have hset: ∀j,(done.setIfInBounds i true).getD j false=true->j=i\/done.getD j false=true:=fun j hj=>by
  by_cases hij:i=j
  ·exact .inl hij.symm
  ·rw [xE false hij]at hj;exact .inr hj
 have hseti:(done.setIfInBounds i true).getD i false=true:=by simp [hlt]
 have hun' :done.getD i false=false:=by simp [hlt]at hun ⊢;exact hun
 refine⟨h.ext.step0 hext,hsat,h.own.ext0 hext,?_,?_,by simp [h.dsz],fun j p hj hdone e he H=>?_,fun k u hk hno=>?_,fun j p d' u hj hdone hd' hu=>?_⟩
 ·rw [hd];simp [Act.put,h.size]
 ·rw [hd];exact h.defers
 ·rcases hset j hdone with rfl|hj'
  ·rw [hi]at hj
   have:o=p:=by simpa using hj
   subst this
   exact Am (hwait e he H)
  ·exact Am (h.down j p hj hj' e he H)
 ·have hne:aN≠k:=fun e=>hno i o hi hseti (by rw [hd,e])
  rw [hd,vg hda,bm hne]
  exact u.mono hext.keep (h.old k u hk fun j p hj hdone=>hno j p hj (Am hdone))
 ·rw [hd,vg hda]
  rcases hset j hdone with rfl|hj'
  ·rw [hi]at hj
   have:o=p:=by simpa using hj
   subst this
   rw [hd]at hd'
   have:aN=d' :=by simpa using hd'
   subst this
   rw [bv rfl]
   rw [M]at hu
   have:t=u:=by simpa using hu
   subst this
   exact hv
  ·have hne:aN≠d' :=fun e=>by
    subst e
    have:=hs2 i j o p hi hj (by rw [hd,hd'])
    subst this
    rw [hj']at hun';cases hun'
   rw [bm hne]
   exact u.mono hext.keep (h.new j p d' u hj hj' hd' hu)
def Nb{l:List Oper}{done:Array Bool}(hsz:done.size=l.length)(hedge: ∀i o,l[i]? =some o->fK i o=true)(hr:Region.ready .any l.toArray done=[]): ∀n i,i<n->i<l.length->done.getD i false=true
 |0,i,h,_=>by omega
 |n+1,i,h,hi=>by
  have ih:=Nb hsz hedge hr n
  by_cases hd:done.getD i true=true
  ·have:i<done.size:=by omega
   simp [this]at hd ⊢;exact hd
  ·exfalso
   have hmem:i∈Region.ready .any l.toArray done:=by
    rw [um]
    refine⟨by simpa using hd,l[i],by simp [hi],fun e he H=>?_⟩
    have:=hedge i l[i] (by simp [hi])
    unfold fK at this
    have:=mZ.1 this e (by simpa using he)
    simp only [H,qg,An,sr]at this
    exact ih e.on (by omega) (by omega)
   rw [hr]at hmem
   cases hmem
def lK(done:Array Bool):Nat:=done.toList.countP (· ==false)
def rr(h:done.getD i true=false):lK (done.setIfInBounds i true)+1=lK done:=by
 have hlt:i<done.size:=by
  rcases lZ i done.size with h' |h'
  ·exact h'
  ·simp [Array.getElem?_eq_none h']at h
 have hv:done[i]=false:=by simpa [hlt] using h
 unfold lK
 rw [Array.toList_setIfInBounds,List.countP_set (by simpa using hlt)]
 have V:(done.toList[i]'(by simpa using hlt))=false:=by simpa using hv
 have hpos:0<done.toList.countP (· ==false):=List.countP_pos_iff.2 ⟨done.toList[i]'(by simpa using hlt),Ch _,by rw [V];rfl⟩
 rw [V,bv (show(false==false)=true from rfl),bm (show¬((true==false)=true) by decide)]
 omega
def NO{E:En}{l:List Oper}(hsl:wE E.N.n [] l=true)(hd:DR E O G l ts 0 l)(hQ: ∀done a w S,DJ E O G l ts done a w S->(∀i,i<l.length->done.getD i false=true)->af .normal a w):
  ∀(fuel:Nat) (done:Array Bool) (a:Act) (w:World) (S:SH),lK done=fuel->DJ E O G l ts done a w S->wpAnyIn (fw E.r) 0 E.P .any l.toArray af fuel done a w:=by
 have hedge: ∀i o,l[i]? =some o->fK i o=true:=fun i o hi=>by
  obtain⟨_,_,_,_,_,h,_⟩:=DR.get l 0 hd i o hi
  simpa using h
 have fin: ∀done a w S,DJ E O G l ts done a w S->Region.ready .any l.toArray done=[]->af .normal a w:=fun done a w S h hr=>
  hQ done a w S h fun i hi=>Nb h.dsz hedge hr (i+1) i (by omega) hi
 intro fuel
 induction fuel with
 |zero=>
  intro done a w S hu h
  have hr:Region.ready .any l.toArray done=[]:=by
   cases hr:Region.ready .any l.toArray done with
   |nil=>rfl
   |cons i r=>
    have hm:i∈Region.ready .any l.toArray done:=by rw [hr];exact lg ..
    have:=rr (um.1 hm).1
    omega
  exact⟨hr,fin done a w S h hr⟩
 |succ fuel ih=>
  intro done a w S hu h
  refine⟨fin done a w S h,fun i hi=>?_⟩
  obtain⟨hun,o,ho,hwait⟩:=um.1 hi
  have ho' :l[i]? =some o:=by simpa using ho
  obtain⟨needs,t,A,V,h3,_,h5⟩:=DR.get l 0 hd i o ho'
  rw [rj]at A h3
  have hF:=h.need ho' hun hwait V h3
  have h6:=h5 a w S h.sat h.own hF
  have hu' :lK (done.setIfInBounds i true)=fuel:=by have:=rr hun;omega
  unfold wpOpIn
  rw [ho]
  show if _ then _ else _
  by_cases hw:Region.wanted o (yielded l.toArray a.tmps)=true
  ·rw [bv hw]at h6 ⊢
   refine lv (fun a' w' ⟨v,S',ha,he,hs,hv⟩=>?_) h6
   subst ha
   exact ih _ _ _ S' hu' (h.step hsl ho' hwait A hun he hs hv)
  ·rw [bm hw]at h6 ⊢
   exact⟨fun _ _=>trivial,ih _ _ _ S hu' (h.step hsl ho' hwait A hun (kx.refl _ _ _) h.sat h6)⟩
section
variable{E:En}
def mn{id:Nat}{l:List Oper}(hm:E.P.follows .mixedOrders=true)(hsl:wE E.N.n [] l=true)(hlen:ts.length=l.length)(hd:DR E O G l ts 0 l)(k:AT E af .normal O (Oz l ts G)):
  CG E af (.region id l.toArray true) O G:=fun a w S st=>by
 refine wpIn_region_any hm ?_
 obtain⟨he,hs⟩:=Dv (w:=w) st.sat
 refine NO hsl hd (fun done a w S h hall=>k a w S ⟨h.ext,h.sat,h.own,h.size,h.defers,fun j t hj=>?_⟩) _ _ _ _ S ?_
  ⟨st.ext.step0 he,hs,st.own.ext0 he,st.facts.size,st.facts.defers,by simp,fun j o hj hdone=>?_,fun k t hk _=>st.facts.at_ k t hk,fun j o aN t hj hdone=>?_⟩
 ·obtain⟨hs1,_⟩:=yH l [] hsl
  rcases Jo l ts j t (fun o ho e=>by obtain⟨aN,hd,_⟩:=hs1 o ho;rw [hd]at e;cases e) hlen hj with⟨i,o,A,V,h3⟩|⟨A,V⟩
  ·exact h.new i o j t A (hall i (o5.1 A).1) V h3
  ·exact h.old j t A fun i o ho _=>V o (sR ho)
 ·unfold lK;rw [Qe,PY];simp
 ·simp [Ba]at hdone
  split at hdone<;>simp at hdone
 ·simp [Ba]at hdone
  split at hdone<;>simp at hdone
def aK{need:lY}(hg:o.guard=none)(h:ce E O need o t):bj E O ops need o t:=fun a w S hs ho hf=>by
 have:Region.wanted o (yielded ops a.tmps)=true:=by unfold Region.wanted;rw [hg]
 rw [this,bv rfl]
 exact h a w S hs ho hf
def Fl{l:List Oper}{need:lY}{c:Bool}(hg:o.guard=some (j,pol))(hj:((l.toArray)[j]?).bind (·.dst)=some gs)(hgs:Nat.blt gs E.N.n=true)(H:aL E.N need (.tmp gs) (vo c b))(h:(c&&(b==pol))=true->ce E O need o t):bj E O l.toArray need o (pG (c&&(b==pol)) t):=fun a w S hs ho hf=>by
 have hw:=Gi (ops:=l.toArray) hg hj (by rw [hf.size];simpa [sr] using hgs) (H S a hf)
 rw [hw]
 by_cases hc:(c&&(b==pol))=true
 ·rw [bv hc]
  refine oK (fun a' w' ⟨v,S',ha,he,hs,hv⟩=>⟨v,S',ha,he,hs,?_⟩) (h hc a w S hs ho hf)
  show if _ then _ else _
  rw [bv hc];exact hv
 ·rw [bm hc]
  show if _ then _ else _
  rw [bm hc]
end
variable{α0:Type}{Gf:α0->lY}{Of:α0->List OE}{α1 α2 α3 α4 α5 α6:Type}
section
variable{E:En}
def Ts{id:Nat}{tV:Prop}{Of:List OE}{Gf:lY}(hK:tV->AT E af .normal (Of) (Gf))(h:(tV->AT E af .normal (Of) (Gf))->CG E (Exit.inBlock id af) c O G):CG E af (.block id c) O G:=am (h hK)
def RB{tV:Nat->α0->Prop}(h0: ∀x0,tV 0 x0->False)(h: ∀n,(∀x0,tV n x0->LG E af c (Of x0) (Gf x0))-> ∀x0,tV (n+1) x0->LG E af c (Of x0) (Gf x0)): ∀n,∀x0,tV n x0->LG E af c (Of x0) (Gf x0)
 |0=>fun x0 hz=>(h0 x0 hz).elim
 |n+1=>h n (RB h0 h n)
def gG{tV:List β->α0->Prop}{Of:List β->α0->List OE}{Gf:List β->α0->lY}(h0: ∀x0,tV [] x0->LG E af c (Of [] x0) (Gf [] x0))(h: ∀b l,(∀x0,tV l x0->LG E af c (Of l x0) (Gf l x0))-> ∀x0,tV (b::l) x0->LG E af c (Of (b::l) x0) (Gf (b::l) x0)): ∀l,∀x0,tV l x0->LG E af c (Of l x0) (Gf l x0)
 |[]=>h0
 |b::l=>h b l (gG h0 h l)
def RA{tV:Nat->α0->Prop}{Of:Nat->α0->List OE}{Gf:Nat->α0->lY}(h0: ∀x0,tV 0 x0->LG E af c (Of 0 x0) (Gf 0 x0))(h: ∀n,(∀x0,tV n x0->LG E af c (Of n x0) (Gf n x0))-> ∀x0,tV (n+1) x0->LG E af c (Of (n+1) x0) (Gf (n+1) x0)): ∀n,∀x0,tV n x0->LG E af c (Of n x0) (Gf n x0)
 |0=>h0
 |n+1=>h n (RA h0 h n)
def JW{id:Nat}{tV:α0->Prop}(hK: ∀x0,tV x0->AT E af .normal (Of x0) (Gf x0))(h:(∀x0,tV x0->AT E af .normal (Of x0) (Gf x0))->CG E (Exit.inBlock id af) c O G):CG E af (.block id c) O G:=am (h hK)
def oZ{x y:Code}{tV:α0->Prop}(hK: ∀x0,tV x0->CG E af y (Of x0) (Gf x0))(h:(∀x0,tV x0->AT E (Exit.then (y.wpIn (fw E.r) 0 E.P af) af) .normal (Of x0) (Gf x0))->CG E (Exit.then (y.wpIn (fw E.r) 0 E.P af) af) x O G):CG E af (.seq x y) O G:=aE (h (fun x0=>fun hz=>hK x0 hz))
def gY{tV:List β->α0->α1->Prop}{Of:List β->α0->α1->List OE}{Gf:List β->α0->α1->lY}(h0: ∀x0 x1,tV [] x0 x1->LG E af c (Of [] x0 x1) (Gf [] x0 x1))(h: ∀b l,(∀x0 x1,tV l x0 x1->LG E af c (Of l x0 x1) (Gf l x0 x1))-> ∀x0 x1,tV (b::l) x0 x1->LG E af c (Of (b::l) x0 x1) (Gf (b::l) x0 x1)): ∀l,∀x0 x1,tV l x0 x1->LG E af c (Of l x0 x1) (Gf l x0 x1)
 |[]=>h0
 |b::l=>h b l (gY h0 h l)
def Rz{tV:Nat->α0->α1->Prop}{Of:Nat->α0->α1->List OE}{Gf:Nat->α0->α1->lY}(h0: ∀x0 x1,tV 0 x0 x1->LG E af c (Of 0 x0 x1) (Gf 0 x0 x1))(h: ∀n,(∀x0 x1,tV n x0 x1->LG E af c (Of n x0 x1) (Gf n x0 x1))-> ∀x0 x1,tV (n+1) x0 x1->LG E af c (Of (n+1) x0 x1) (Gf (n+1) x0 x1)): ∀n,∀x0 x1,tV n x0 x1->LG E af c (Of n x0 x1) (Gf n x0 x1)
 |0=>h0
 |n+1=>h n (Rz h0 h n)
def EC{x y:Code}{tV:α0->α1->Prop}{Of:α0->α1->List OE}{Gf:α0->α1->lY}(hK: ∀x0 x1,tV x0 x1->CG E af y (Of x0 x1) (Gf x0 x1))(h:(∀x0 x1,tV x0 x1->AT E (Exit.then (y.wpIn (fw E.r) 0 E.P af) af) .normal (Of x0 x1) (Gf x0 x1))->CG E (Exit.then (y.wpIn (fw E.r) 0 E.P af) af) x O G):CG E af (.seq x y) O G:=aE (h (fun x0 x1=>fun hz=>hK x0 x1 hz))
def sM{tV:List β->α0->α1->α2->Prop}{Of:List β->α0->α1->α2->List OE}{Gf:List β->α0->α1->α2->lY}(h0: ∀x0 x1 x2,tV [] x0 x1 x2->LG E af c (Of [] x0 x1 x2) (Gf [] x0 x1 x2))(h: ∀b l,(∀x0 x1 x2,tV l x0 x1 x2->LG E af c (Of l x0 x1 x2) (Gf l x0 x1 x2))-> ∀x0 x1 x2,tV (b::l) x0 x1 x2->LG E af c (Of (b::l) x0 x1 x2) (Gf (b::l) x0 x1 x2)): ∀l,∀x0 x1 x2,tV l x0 x1 x2->LG E af c (Of l x0 x1 x2) (Gf l x0 x1 x2)
 |[]=>h0
 |b::l=>h b l (sM h0 h l)
def Ry{tV:Nat->α0->α1->α2->Prop}{Of:Nat->α0->α1->α2->List OE}{Gf:Nat->α0->α1->α2->lY}(h0: ∀x0 x1 x2,tV 0 x0 x1 x2->LG E af c (Of 0 x0 x1 x2) (Gf 0 x0 x1 x2))(h: ∀n,(∀x0 x1 x2,tV n x0 x1 x2->LG E af c (Of n x0 x1 x2) (Gf n x0 x1 x2))-> ∀x0 x1 x2,tV (n+1) x0 x1 x2->LG E af c (Of (n+1) x0 x1 x2) (Gf (n+1) x0 x1 x2)): ∀n,∀x0 x1 x2,tV n x0 x1 x2->LG E af c (Of n x0 x1 x2) (Gf n x0 x1 x2)
 |0=>h0
 |n+1=>h n (Ry h0 h n)
def Tq{id:Nat}{tV:α0->α1->α2->Prop}{Of:α0->α1->α2->List OE}{Gf:α0->α1->α2->lY}(hK: ∀x0 x1 x2,tV x0 x1 x2->AT E af .normal (Of x0 x1 x2) (Gf x0 x1 x2))(h:(∀x0 x1 x2,tV x0 x1 x2->AT E af .normal (Of x0 x1 x2) (Gf x0 x1 x2))->CG E (Exit.inBlock id af) c O G):CG E af (.block id c) O G:=am (h hK)
def ww{x y:Code}{tV:α0->α1->α2->Prop}{Of:α0->α1->α2->List OE}{Gf:α0->α1->α2->lY}(hK: ∀x0 x1 x2,tV x0 x1 x2->CG E af y (Of x0 x1 x2) (Gf x0 x1 x2))(h:(∀x0 x1 x2,tV x0 x1 x2->AT E (Exit.then (y.wpIn (fw E.r) 0 E.P af) af) .normal (Of x0 x1 x2) (Gf x0 x1 x2))->CG E (Exit.then (y.wpIn (fw E.r) 0 E.P af) af) x O G):CG E af (.seq x y) O G:=aE (h (fun x0 x1 x2=>fun hz=>hK x0 x1 x2 hz))
def sL{tV:List β->α0->α1->α2->α3->Prop}{Of:List β->α0->α1->α2->α3->List OE}{Gf:List β->α0->α1->α2->α3->lY}(h0: ∀x0 x1 x2 x3,tV [] x0 x1 x2 x3->LG E af c (Of [] x0 x1 x2 x3) (Gf [] x0 x1 x2 x3))(h: ∀b l,(∀x0 x1 x2 x3,tV l x0 x1 x2 x3->LG E af c (Of l x0 x1 x2 x3) (Gf l x0 x1 x2 x3))-> ∀x0 x1 x2 x3,tV (b::l) x0 x1 x2 x3->LG E af c (Of (b::l) x0 x1 x2 x3) (Gf (b::l) x0 x1 x2 x3)): ∀l,∀x0 x1 x2 x3,tV l x0 x1 x2 x3->LG E af c (Of l x0 x1 x2 x3) (Gf l x0 x1 x2 x3)
 |[]=>h0
 |b::l=>h b l (sL h0 h l)
def Rx{tV:Nat->α0->α1->α2->α3->Prop}{Of:Nat->α0->α1->α2->α3->List OE}{Gf:Nat->α0->α1->α2->α3->lY}(h0: ∀x0 x1 x2 x3,tV 0 x0 x1 x2 x3->LG E af c (Of 0 x0 x1 x2 x3) (Gf 0 x0 x1 x2 x3))(h: ∀n,(∀x0 x1 x2 x3,tV n x0 x1 x2 x3->LG E af c (Of n x0 x1 x2 x3) (Gf n x0 x1 x2 x3))-> ∀x0 x1 x2 x3,tV (n+1) x0 x1 x2 x3->LG E af c (Of (n+1) x0 x1 x2 x3) (Gf (n+1) x0 x1 x2 x3)): ∀n,∀x0 x1 x2 x3,tV n x0 x1 x2 x3->LG E af c (Of n x0 x1 x2 x3) (Gf n x0 x1 x2 x3)
 |0=>h0
 |n+1=>h n (Rx h0 h n)
def Tp{id:Nat}{tV:α0->α1->α2->α3->Prop}{Of:α0->α1->α2->α3->List OE}{Gf:α0->α1->α2->α3->lY}(hK: ∀x0 x1 x2 x3,tV x0 x1 x2 x3->AT E af .normal (Of x0 x1 x2 x3) (Gf x0 x1 x2 x3))(h:(∀x0 x1 x2 x3,tV x0 x1 x2 x3->AT E af .normal (Of x0 x1 x2 x3) (Gf x0 x1 x2 x3))->CG E (Exit.inBlock id af) c O G):CG E af (.block id c) O G:=am (h hK)
def Ii{tV:List β->α0->α1->α2->α3->α4->Prop}{Of:List β->α0->α1->α2->α3->α4->List OE}{Gf:List β->α0->α1->α2->α3->α4->lY}(h0: ∀x0 x1 x2 x3 x4,tV [] x0 x1 x2 x3 x4->LG E af c (Of [] x0 x1 x2 x3 x4) (Gf [] x0 x1 x2 x3 x4))(h: ∀b l,(∀x0 x1 x2 x3 x4,tV l x0 x1 x2 x3 x4->LG E af c (Of l x0 x1 x2 x3 x4) (Gf l x0 x1 x2 x3 x4))-> ∀x0 x1 x2 x3 x4,tV (b::l) x0 x1 x2 x3 x4->LG E af c (Of (b::l) x0 x1 x2 x3 x4) (Gf (b::l) x0 x1 x2 x3 x4)): ∀l,∀x0 x1 x2 x3 x4,tV l x0 x1 x2 x3 x4->LG E af c (Of l x0 x1 x2 x3 x4) (Gf l x0 x1 x2 x3 x4)
 |[]=>h0
 |b::l=>h b l (Ii h0 h l)
def To{id:Nat}{tV:α0->α1->α2->α3->α4->α5->Prop}{Of:α0->α1->α2->α3->α4->α5->List OE}{Gf:α0->α1->α2->α3->α4->α5->lY}(hK: ∀x0 x1 x2 x3 x4 x5,tV x0 x1 x2 x3 x4 x5->AT E af .normal (Of x0 x1 x2 x3 x4 x5) (Gf x0 x1 x2 x3 x4 x5))(h:(∀x0 x1 x2 x3 x4 x5,tV x0 x1 x2 x3 x4 x5->AT E af .normal (Of x0 x1 x2 x3 x4 x5) (Gf x0 x1 x2 x3 x4 x5))->CG E (Exit.inBlock id af) c O G):CG E af (.block id c) O G:=am (h hK)
def Ih{tV:List β->α0->α1->α2->α3->α4->α5->α6->Prop}{Of:List β->α0->α1->α2->α3->α4->α5->α6->List OE}{Gf:List β->α0->α1->α2->α3->α4->α5->α6->lY}(h0: ∀x0 x1 x2 x3 x4 x5 x6,tV [] x0 x1 x2 x3 x4 x5 x6->LG E af c (Of [] x0 x1 x2 x3 x4 x5 x6) (Gf [] x0 x1 x2 x3 x4 x5 x6))(h: ∀b l,(∀x0 x1 x2 x3 x4 x5 x6,tV l x0 x1 x2 x3 x4 x5 x6->LG E af c (Of l x0 x1 x2 x3 x4 x5 x6) (Gf l x0 x1 x2 x3 x4 x5 x6))-> ∀x0 x1 x2 x3 x4 x5 x6,tV (b::l) x0 x1 x2 x3 x4 x5 x6->LG E af c (Of (b::l) x0 x1 x2 x3 x4 x5 x6) (Gf (b::l) x0 x1 x2 x3 x4 x5 x6)): ∀l,∀x0 x1 x2 x3 x4 x5 x6,tV l x0 x1 x2 x3 x4 x5 x6->LG E af c (Of l x0 x1 x2 x3 x4 x5 x6) (Gf l x0 x1 x2 x3 x4 x5 x6)
 |[]=>h0
 |b::l=>h b l (Ih h0 h l)
def Rw{tV:Nat->α0->α1->α2->α3->α4->α5->α6->Prop}{Of:Nat->α0->α1->α2->α3->α4->α5->α6->List OE}{Gf:Nat->α0->α1->α2->α3->α4->α5->α6->lY}(h0: ∀x0 x1 x2 x3 x4 x5 x6,tV 0 x0 x1 x2 x3 x4 x5 x6->LG E af c (Of 0 x0 x1 x2 x3 x4 x5 x6) (Gf 0 x0 x1 x2 x3 x4 x5 x6))(h: ∀n,(∀x0 x1 x2 x3 x4 x5 x6,tV n x0 x1 x2 x3 x4 x5 x6->LG E af c (Of n x0 x1 x2 x3 x4 x5 x6) (Gf n x0 x1 x2 x3 x4 x5 x6))-> ∀x0 x1 x2 x3 x4 x5 x6,tV (n+1) x0 x1 x2 x3 x4 x5 x6->LG E af c (Of (n+1) x0 x1 x2 x3 x4 x5 x6) (Gf (n+1) x0 x1 x2 x3 x4 x5 x6)): ∀n,∀x0 x1 x2 x3 x4 x5 x6,tV n x0 x1 x2 x3 x4 x5 x6->LG E af c (Of n x0 x1 x2 x3 x4 x5 x6) (Gf n x0 x1 x2 x3 x4 x5 x6)
 |0=>h0
 |n+1=>h n (Rw h0 h n)
def Tm{x y:Code}{α7:Type}{tV:α0->α1->α2->α3->α4->α5->α6->α7->Prop}{Of:α0->α1->α2->α3->α4->α5->α6->α7->List OE}{Gf:α0->α1->α2->α3->α4->α5->α6->α7->lY}(hK: ∀x0 x1 x2 x3 x4 x5 x6 x7,tV x0 x1 x2 x3 x4 x5 x6 x7->CG E af y (Of x0 x1 x2 x3 x4 x5 x6 x7) (Gf x0 x1 x2 x3 x4 x5 x6 x7))(h:(∀x0 x1 x2 x3 x4 x5 x6 x7,tV x0 x1 x2 x3 x4 x5 x6 x7->AT E (Exit.then (y.wpIn (fw E.r) 0 E.P af) af) .normal (Of x0 x1 x2 x3 x4 x5 x6 x7) (Gf x0 x1 x2 x3 x4 x5 x6 x7))->CG E (Exit.then (y.wpIn (fw E.r) 0 E.P af) af) x O G):CG E af (.seq x y) O G:=aE (h (fun x0 x1 x2 x3 x4 x5 x6 x7=>fun hz=>hK x0 x1 x2 x3 x4 x5 x6 x7 hz))
def Ig{α7 α8:Type}{tV:List β->α0->α1->α2->α3->α4->α5->α6->α7->α8->Prop}{Of:List β->α0->α1->α2->α3->α4->α5->α6->α7->α8->List OE}{Gf:List β->α0->α1->α2->α3->α4->α5->α6->α7->α8->lY}(h0: ∀x0 x1 x2 x3 x4 x5 x6 x7 x8,tV [] x0 x1 x2 x3 x4 x5 x6 x7 x8->LG E af c (Of [] x0 x1 x2 x3 x4 x5 x6 x7 x8) (Gf [] x0 x1 x2 x3 x4 x5 x6 x7 x8))(h: ∀b l,(∀x0 x1 x2 x3 x4 x5 x6 x7 x8,tV l x0 x1 x2 x3 x4 x5 x6 x7 x8->LG E af c (Of l x0 x1 x2 x3 x4 x5 x6 x7 x8) (Gf l x0 x1 x2 x3 x4 x5 x6 x7 x8))-> ∀x0 x1 x2 x3 x4 x5 x6 x7 x8,tV (b::l) x0 x1 x2 x3 x4 x5 x6 x7 x8->LG E af c (Of (b::l) x0 x1 x2 x3 x4 x5 x6 x7 x8) (Gf (b::l) x0 x1 x2 x3 x4 x5 x6 x7 x8)): ∀l,∀x0 x1 x2 x3 x4 x5 x6 x7 x8,tV l x0 x1 x2 x3 x4 x5 x6 x7 x8->LG E af c (Of l x0 x1 x2 x3 x4 x5 x6 x7 x8) (Gf l x0 x1 x2 x3 x4 x5 x6 x7 x8)
 |[]=>h0
 |b::l=>h b l (Ig h0 h l)
end
def bs{α:Type _}{β:Type _}{x:Option α}{k:α->Option β}{r:β}(h:x.bind k=some r): ∃y,x=some y/\k y=some r:=by
 cases x with
 |none=>cases h
 |some y=>exact⟨y,rfl,h⟩
def ct{β:Type _}{x y:Option β}{r:β}(h:(if b=true then x else y)=some r)(H:b=true):x=some r:=by rwa [bv H]at h
def cf{β:Type _}{x y:Option β}{r:β}(h:(if b=true then x else y)=some r)(H:b=false):y=some r:=by rwa [bm (by rw [H];decide)]at h
def so{β:Type _}{x r:β}(h:some x=some r):x=r:=by simpa using h
def og [Inhabited α]{x:Option α}{k:α->Option β}{aN:Option β}{r:β}(h:(if b=true then x.bind k else aN)=some r): ∃y,(b=true->x=some y/\k y=some r)/\(b=false->aN=some r):=by
 cases b with
 |true=>obtain⟨y,A,V⟩:=bs (ct h rfl);exact⟨y,fun _=>⟨A,V⟩,fun e=>(by cases e)⟩
 |false=>exact⟨default,fun e=>(by cases e),fun _=>cf h rfl⟩

def bS{α β:Type}(p:Rp α)(q:Rp β):Rp (α×β) where
 sz:=p.sz+q.sz
 agg:=true
 rc:=fun S cs x=> ∃a b,cs=a++b/\p.rc S a x.1/\q.rc S b x.2
 mono:=fun h ⟨a,b,e,A,V⟩=>⟨a,b,e,p.mono h A,q.mono h V⟩
 len:=fun⟨a,b,e,A,V⟩=>by rw [e,gA,p.len A,q.len V]
 one:=fun⟨a,b,e,A,V⟩ c hc=>by
  rw [e]at hc
  rcases A6.1 hc with h|h
  ·exact p.one A c h
  ·exact q.one V c h
 sc:=fun h=>by cases h
def j4{α β:Type}(p:Rp α)(f:β->α):Rp β where
 sz:=p.sz
 agg:=true
 rc:=fun S cs x=>p.rc S cs (f x)
 mono:=fun h k=>p.mono h k
 len:=fun h=>p.len h
 one:=fun h=>p.one h
 sc:=fun h=>by cases h
def bq{p:Rp α}{f:β->α}:ju (j4 p f) 0 p f:=fun S cs x h=>by
 have h' :p.rc S cs (f x):=h
 have hl:=p.len h'
 rw [qh,<-hl,AA];exact h'
def cw{γ:Type}{p:Rp α}{q:Rp β}{r:Rp γ}{get:γ->α×β}(h:ju r off (bS p q) get):ju r off p (fun x=>(get x).1):=fun S cs x k=>by
 obtain⟨a,b,e,A,V⟩:=h S cs x k
 have hl:=p.len A
 have hl2:=q.len V
 have:(cs.drop off).take p.sz=a:=by
  have e2:=congrArg (List.take p.sz) e
  rw [B0,A7 (by show p.sz<=p.sz+q.sz;omega),<-hl,List.take_left]at e2
  rw [<-hl];exact e2
 rw [this];exact A
def aq{γ:Type}{p:Rp α}{q:Rp β}{r:Rp γ}{off' :Nat}{get:γ->α×β}(h:ju r off (bS p q) get)(ho:off' =off+p.sz):ju r off' q (fun x=>(get x).2):=fun S cs x k=>by
 obtain⟨a,b,e,A,V⟩:=h S cs x k
 have hl:=p.len A
 have hl2:=q.len V
 have:(cs.drop off').take q.sz=b:=by
  have e2:=congrArg (List.drop p.sz) e
  rw [yq,uk,<-hl,List.drop_left]at e2
  rw [ho,<-hl,<-e2]
  congr 1
  show q.sz=p.sz+q.sz-a.length
  omega
 rw [this];exact V

section
variable{E:En}
def XN{op:Op}{ty:TypeId}(hj:(ops[j]?).bind (·.dst)=some gs)(hgs:Nat.blt gs E.N.n=true)(hg:look G gs=some (K rB b))(hd:Nat.blt aN E.N.n=true)(h:b=true->ce E O G ⟨some aN,op,ty,pos,after,some (j,true)⟩ t)(k:RG E ops af rest O ((aN,pG b t)::G)):RG E ops af (⟨some aN,op,ty,pos,after,some (j,true)⟩::rest) O G:=by
 have e:(true&&(b==true))=b:=by cases b<;>rfl
 exact Lk hj hgs (vn hg) hd (by rw [e];exact h) (by rw [e];exact k)
def XO{op:Op}{ty:TypeId}(hj:(ops[j]?).bind (·.dst)=some gs)(hgs:Nat.blt gs E.N.n=true)(hg:look G gs=some (K rB b))(hd:Nat.blt aN E.N.n=true)(h:(!b)=true->ce E O G ⟨some aN,op,ty,pos,after,some (j,false)⟩ t)(k:RG E ops af rest O ((aN,pG (!b) t)::G)):RG E ops af (⟨some aN,op,ty,pos,after,some (j,false)⟩::rest) O G:=by
 have e:(true&&(b==false))= !b:=by cases b<;>rfl
 exact Lk hj hgs (vn hg) hd (by rw [e];exact h) (by rw [e];exact k)
def iA{c:Bool}{op:Op}{ty:TypeId}(hj:(ops[j]?).bind (·.dst)=some gs)(hgs:Nat.blt gs E.N.n=true)(hg:look G gs=some (pG c (K rB b)))(hd:Nat.blt aN E.N.n=true)(h:(c&&b)=true->ce E O G ⟨some aN,op,ty,pos,after,some (j,true)⟩ t)(k:RG E ops af rest O ((aN,pG (c&&b) t)::G)):RG E ops af (⟨some aN,op,ty,pos,after,some (j,true)⟩::rest) O G:=by
 have e:(c&&(b==true))=(c&&b):=by cases b<;>rfl
 exact Lk hj hgs (Jx hg) hd (by rw [e];exact h) (by rw [e];exact k)
def jk{c:Bool}{op:Op}{ty:TypeId}(hj:(ops[j]?).bind (·.dst)=some gs)(hgs:Nat.blt gs E.N.n=true)(hg:look G gs=some (pG c (K rB b)))(hd:Nat.blt aN E.N.n=true)(h:(c&& !b)=true->ce E O G ⟨some aN,op,ty,pos,after,some (j,false)⟩ t)(k:RG E ops af rest O ((aN,pG (c&& !b) t)::G)):RG E ops af (⟨some aN,op,ty,pos,after,some (j,false)⟩::rest) O G:=by
 have e:(c&&(b==false))=(c&& !b):=by cases b<;>rfl
 exact Lk hj hgs (Jx hg) hd (by rw [e];exact h) (by rw [e];exact k)
def uY{l:List Oper}{need:lY}(hg:o.guard=some (j,true))(hj:((l.toArray)[j]?).bind (·.dst)=some gs)(hgs:Nat.blt gs E.N.n=true)(H:look need gs=some (K rB b))(h:b=true->ce E O need o t):bj E O l.toArray need o (pG b t):=by
 have e:(true&&(b==true))=b:=by cases b<;>rfl
 have:=Fl (t:=t) hg hj hgs (vn (E:=E) H) (by rw [e];exact h)
 rwa [e]at this
def xC{l:List Oper}{need:lY}(hg:o.guard=some (j,false))(hj:((l.toArray)[j]?).bind (·.dst)=some gs)(hgs:Nat.blt gs E.N.n=true)(H:look need gs=some (K rB b))(h:(!b)=true->ce E O need o t):bj E O l.toArray need o (pG (!b) t):=by
 have e:(true&&(b==false))= !b:=by cases b<;>rfl
 have:=Fl (t:=t) hg hj hgs (vn (E:=E) H) (by rw [e];exact h)
 rwa [e]at this
def zy{a:Bool}(h:a=true)(k:b=true):(a&&b)=true:=by rw [h,k];rfl
def yf{a:Bool}(h:a=false):(!a)=true:=by rw [h];rfl
def la{c:Operand}{x y:Code}(H:aL E.N G c (K rB b))(h:b=true)(D:CG E af x O G):CG E af (.cond c x y) O G:=tX H (fun _=>D) (fun e=>by rw [h]at e;cases e)
def lb{c:Operand}{x y:Code}(H:aL E.N G c (K rB b))(h:b=false)(hy:CG E af y O G):CG E af (.cond c x y) O G:=tX H (fun e=>by rw [h]at e;cases e) (fun _=>hy)
end
def YQ [Inhabited α]{x:Option α}{k:α->Option β}{r:β}(h:b=true->x.bind k=some r): ∃y,b=true->x=some y/\k y=some r:=by
 cases b with
 |true=>obtain⟨y,A,V⟩:=bs (h rfl);exact⟨y,fun _=>⟨A,V⟩⟩
 |false=>exact⟨default,fun e=>(by cases e)⟩
def nz(n:Int):Option Unit:=if n=0 then none else some ()
def QM{n:Int}{u:Unit}(h:nz n=some u):n≠0:=fun e=>by rw [e]at h;cases h

section
variable{E:En}{ty:TypeId}
def n8{c:Operand}(hc:aL E.N G c (K rB b))(D:b=true->aL E.N G x (K rB q)):ce E O G ⟨dst,.pick c x (.const (.bool false)),ty,pos,after,g⟩ (K rB (b&&q)):=by
 refine FY hc (fun h=>?_) (fun h=>?_)
 ·subst h;exact D rfl
 ·subst h;exact hB
def Sn{c:Operand}(hc:aL E.N G c (K rB b))(D:b=false->aL E.N G x (K rB q)):ce E O G ⟨dst,.pick c (.const (.bool true)) x,ty,pos,after,g⟩ (K rB (b||q)):=by
 refine FY hc (fun h=>?_) (fun h=>?_)
 ·subst h;exact hB
 ·subst h;exact D rfl
def cm{c:Operand}{t:Bool}(hc:aL E.N G c (K rB b))(D:b=true->aL E.N G x (K rB q))(e1:b=true->some q=some t)(e0:b=false->some false=some t):ce E O G ⟨dst,.pick c x (.const (.bool false)),ty,pos,after,g⟩ (K rB t):=by
 refine FY hc (fun h=>?_) (fun h=>?_)
 ·rw [<-so (e1 h)];exact D h
 ·rw [<-so (e0 h)];exact hB
def gV{c:Operand}{t:Bool}(hc:aL E.N G c (K rB b))(D:b=false->aL E.N G x (K rB q))(e1:(!b)=true->some q=some t)(e0:(!b)=false->some true=some t):ce E O G ⟨dst,.pick c (.const (.bool true)) x,ty,pos,after,g⟩ (K rB t):=by
 refine FY hc (fun h=>?_) (fun h=>?_)
 ·rw [<-so (e0 (by rw [h];rfl))];exact hB
 ·rw [<-so (e1 (by rw [h];rfl))];exact D h
def G7(hi:ts[i]? =some t)(D:aL E.N G x (tT ts)):ce E O G ⟨dst,.extract x i,ty,pos,after,g⟩ t:=
 .of_pure fun a w S _ _ hf=>by
  obtain⟨vs,A,V⟩:=D S a hf
  obtain⟨v,h3,h4⟩:=V.at_ i t hi
  exact⟨v,by simp [execOp,A,Instr.extract,h3],h4⟩
def Kx{k:IntKind}{m n:Int}(D:aL E.N G x (K (rI k) m))(hy:aL E.N G y (K (rI k) n)):ce E O G ⟨dst,.call ⟨.builtin .max,#[x,y],ats⟩,ty,pos,after,g⟩ (K (rI k) (max m n)):=
 .of_pure fun a w S _ _ hf=>by
  have A:a.eval x= .int k m:=f8.1 (D S a hf)
  have V:a.eval y= .int k n:=f8.1 (hy S a hf)
  refine⟨.int k (if n>m then n else m),by simp [execOp,resolve,invoke,builtin,Builtin.max_,Builtin.max2,A,V],f8.2 ?_⟩
  congr 1
  rw [Int.max_def]
  split<;>split<;>omega
def lz{k:IntKind}{m n:Int}(D:aL E.N G x (K (rI k) m))(hy:aL E.N G y (K (rI k) n)):ce E O G ⟨dst,.call ⟨.builtin .min,#[x,y],ats⟩,ty,pos,after,g⟩ (K (rI k) (min m n)):=
 .of_pure fun a w S _ _ hf=>by
  have A:a.eval x= .int k m:=f8.1 (D S a hf)
  have V:a.eval y= .int k n:=f8.1 (hy S a hf)
  refine⟨.int k (if n<m then n else m),by simp [execOp,resolve,invoke,builtin,Builtin.min_,Builtin.min2,A,V],f8.2 ?_⟩
  congr 1
  rw [Int.min_def]
  split<;>split<;>omega

def gZ(P:Program){α β:Type}(args:α->List Ty)(res:β->Ty)(f:α->Option β):Ty where
 p:=fun S v=> ∃fid cap,v= .func (.func fid) #[] cap/\aj P fid=true/\ ∀x y,f x=some y-> ∀w S' vs,qT S S' ->lV w S' ->Ay S' (args x) vs->
  Calls P fid (vs.toArray++cap) w fun e w' => ∃v S'',e= .returned v/\kx uc w S' w' S'' /\lV w' S'' /\(res y).p S'' v
 mono:=fun h ⟨f,cap,e,hc,k⟩=>⟨f,cap,e,hc,fun x y hxy w S' vs hle=>k x y hxy w S' vs (SH.le_trans h hle)⟩
def V2{N:Fr}{P:Program}{f:α->Option β}{fid:FuncId}(hc:aj P fid=true)(hs: ∀x y,f x=some y->dZ P fid (args x) (res y)):aL N G (.func fid) (gZ P args res f):=fun S a _=>
 ⟨fid,#[],rfl,hc,fun x y h w S' vs _ hsat hv=>by simpa using hs x y h w S' vs hsat hv⟩
def Ay.append: ∀{ts us:List Ty} {vs ws:List Value},Ay S ts vs->Ay S us ws->Ay S (ts++us) (vs++ws)
 |[],_,[],_,_,h=>h
 |_::_,_,_::_,_,⟨A,V⟩,h=>⟨A,Ay.append V h⟩
def n9{f:α->Option β}{fid:FuncId}{caps:List Operand}{cts:List Ty}(hc:aj E.P fid=true)(hcap:j3 E.N G caps cts)(hs: ∀x y,f x=some y->dZ E.P fid (args x++cts) (res y)):ce E O G ⟨dst,.makeFunc (.func fid) #[] caps.toArray,ty,pos,after,g⟩ (gZ E.P args res f):=
 .of_pure fun a w S _ _ hf=>by
  refine⟨.func (.func fid) #[] (caps.map a.eval).toArray,by simp [execOp,Instr.makeFunc],fid,_,rfl,hc,fun x y h w' S' vs hle hsat hv=>?_⟩
  have hcv:=(hcap.tys hf).mono hle
  simpa using hs x y h w' S' _ hsat (hv.append hcv)
def iy{f:α->Option β}{fo:Operand}{x:α}{y:β}{xs:List Operand}(hfo:aL E.N G fo (gZ E.P args res f))(h:f x=some y)(D:j3 E.N G xs (args x)):
  ce E O G ⟨dst,.call ⟨.value fo,xs.toArray,ats⟩,ty,pos,after,g⟩ (res y):=fun a w S hS _ hF=>by
 obtain⟨fid,cap,e,hc,hs⟩:=hfo S a hF
 have hr:(execOp a.eval ⟨dst,.call ⟨.value fo,xs.toArray,ats⟩,ty,pos,after,g⟩).run E.P w= .ok (.enter fid ((xs.map a.eval).toArray++cap)) w:=by
  simp [execOp,resolve,e,Deferred.ofValue,invoke,jN hc]
 refine⟨fun c h=>(by cases h),?_⟩
 rw [hr]
 exact(hs x y h w S _ (SH.le_refl _) hS (D.tys hF)).mono fun e w' ⟨v,S',he,A,V,h3⟩=>⟨v,he,v,S',rfl,A,V,h3⟩
end
def dZ.of{P:Program}{N:Nat}(hf:P.funcs[f]? =some fn)(H:fn.body=some c)(hN:fn.ntmps=N)(hn:Nat.ble ts.length N=true)(h: ∀w0 S0,CG ⟨P,⟨N,[]⟩,uc,w0,S0,none⟩ (bodyPost P fn (Pr ⟨P,⟨N,[]⟩,uc,w0,S0,none⟩ t)) c [] (AX 0 ts)):dZ P f ts t:=by
 subst hN
 exact Lj hf H (rm hn) h
def nn{α:Type _}{r:α}(h:(none:Option α)=some r):False:=by cases h
def F1{N:Fr}:aL N G (.const (.slice none 0 0)) (Z (Y none 0 0)):=fun _ _ _=>rfl
def iB:Nat:=2^64
section
variable{E:En}{ty:TypeId}
def OA(l:Option Nat)(cap n:Nat)(h:l=none->n=0): ∃a c,Y l cap n= .slice a n c:=by
 cases l with
 |none=>rw [h rfl];exact⟨none,0,rfl⟩
 |some b=>exact⟨_,cap,rfl⟩
def fa{r:Rp α}{n:Nat}{t:TypeId}(M:E.P.underlying t=some (.slice e))(hm:ku mm r T l cap xs∈O)(D:aL E.N G x (Z (Y l cap n)))(hn:n=xs.length:=by rfl):
  ce E O G ⟨dst,.call ⟨.builtin .len,#[x],#[t]⟩,ty,pos,after,g⟩ (K (rI .i64) (n:Int)):=
 .of_pure fun a w S _ ho hf=>by
  have A:a.eval x=Y l cap n:=D S a hf
  have V:=(ho.mem _ hm).1
  obtain⟨ad,c,h3⟩:=OA l cap n (fun e=>by subst e;obtain⟨_,h4,_⟩:=V;rw [hn];exact h4.1)
  refine⟨.int .i64 n,?_,f8.2 rfl⟩
  simp [execOp,resolve,invoke,builtin,Builtin.len_,jx M,A,h3,goInt]
end

structure NC(P:Program){α:Type} [DecidableEq α](t:TypeId)(r:Rp α):Prop where
 guard:P.eqGuardType P.depth t=false
 run: ∀(S:SH) (cs ds:List Value) (x y:α) (aN:Nat) (w:World),r.rc S cs x->r.rc S ds y->(Op.equalIn (aN+20) t (r.val cs) (r.val ds)).run P w= .ok (decide (x=y)) w
section
variable{E:En}{ty:TypeId}
def Ff{P:Program}{t:TypeId}(h:P.eqGuardType P.depth t=false){op:BinOp}{x y:Operand}{u v:Array Value}{w:World}:(eqGuard op t x y (.agg u) (.agg v)).run P w= .ok () w:=by
 unfold eqGuard
 cases op<;>first|rfl|simp [h]
def tu{r:Rp α}(h:r.agg=true)(cs:List Value):r.val cs= .agg cs.toArray:=by unfold Rp.val;rw [bv h]
def QG [DecidableEq α]{r:Rp α}{m n:α}(he:NC E.P xt r)(D:aL E.N G x (K r m))(hy:aL E.N G y (K r n))(ha:r.agg=true:=by rfl):ce E O G ⟨dst,.binOp .eql xt x y yt,ty,pos,after,g⟩ (K rB (decide (m=n))):=
 .of_pure fun a w S _ _ hf=>by
  obtain⟨cs,A,V⟩:=D S a hf
  obtain⟨ds,h3,h4⟩:=hy S a hf
  refine⟨.bool (decide (m=n)),?_,jy.2 rfl⟩
  have hr:=he.run S cs ds m n 9980 w V h4
  have hg:= @Ff E.P xt he.guard .eql x y cs.toArray ds.toArray w
  rw [tu ha,tu ha]at hr
  simp only [execOp,A,h3,tu ha,qZ,hg,sq,binOp,Op.equal,Op.maxDepth]
  rw [show(10000:Nat)=9980+20 from rfl,hr]
  simp
def CM [DecidableEq α]{r:Rp α}{m n:α}(he:NC E.P xt r)(D:aL E.N G x (K r m))(hy:aL E.N G y (K r n))(ha:r.agg=true:=by rfl):ce E O G ⟨dst,.binOp .neq xt x y yt,ty,pos,after,g⟩ (K rB (!decide (m=n))):=
 .of_pure fun a w S _ _ hf=>by
  obtain⟨cs,A,V⟩:=D S a hf
  obtain⟨ds,h3,h4⟩:=hy S a hf
  refine⟨.bool (!decide (m=n)),?_,jy.2 rfl⟩
  have hr:=he.run S cs ds m n 9980 w V h4
  have hg:= @Ff E.P xt he.guard .neq x y cs.toArray ds.toArray w
  rw [tu ha,tu ha]at hr
  simp only [execOp,A,h3,tu ha,qZ,hg,sq,binOp,Op.equal,Op.maxDepth]
  rw [show(10000:Nat)=9980+20 from rfl,hr]
  simp
end
end Go.Proofs.YtigldkegamffhaaGreatDoor

