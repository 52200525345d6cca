/- dm of this claim: W1, W49, W2, W3, W4, W5, W6, W7, W8, W9, W10. -/
import Derived.WalkKit
import Derived.Orders
import Derived.Shelf.Unicode.CaseTo
import Derived.Shelf.Unicode.DecodeSlow
import Derived.Lone
import Derived.RunT
import Derived.Calls
import Derived.RangeFuncIn
import Derived.TacticsIn
import Derived.OrdersIn
import Derived.LoopIn
import Derived.Laws.AppendOwn
import Derived.Deep.Upon
import Derived.Lib.AppendStr
import Derived.IntWalk
set_option linter.all false
namespace Go.Proofs.YthbdkceckjihgaaGreatDoor
open Go
def bI:= @Option.bind_some
def cm:= @if_neg
def cx:= @if_pos
def f7:= @Nat.le_refl
def oO:= @List.mem_cons_of_mem
def mV:= @decide_eq_true_eq
def oh:= @List.mem_cons_self
def pg:= @List.length_append
def kN:= @List.getElem?_eq_some_iff
def gF:= @List.append_assoc
def lr:= @List.getElem?_eq_getElem
def jM:= @Bool.and_eq_true
def gn:= @List.mem_cons
def ji:= @List.length_cons
def kM:= @Bool.false_eq_true
def jZ:= @run_underlying
def qh:= @decide_eq_false_iff_not
def sH:= @List.drop_eq_getElem_cons
def rF:= @List.take_of_length_le
def rE:= @List.drop_of_length_le
def qZ:= @Nat.eq_of_beq_eq_true
def jR:= @Nat.zero_le
def ph:= @List.all_eq_true
def uq:= @Nat.le_of_ble_eq_true
def za:= @List.take_append_of_le_length
def y9:= @List.eq_nil_of_length_eq_zero
def xl:= @List.getElem?_append_right
def uN:= @List.take_append_drop
def uo:= @List.mem_of_getElem?
def qo:= @List.nil_append
def rC:= @Option.some.inj
def jh:= @if_false
def oj:= @Nat.le_trans
def oP:= @Nat.lt_or_ge
def tJ:= @Result.andThen_ok
def jb:= @if_true
def rG:= @decide_eq_true
def sG:= @List.length_nil
def qY:= @Bool.not_true
def BA:= @Array.getElem?_eq_some_iff
def sF:= @List.drop_zero
def y8:= @List.length_singleton
def um:= @decide_eq_false
def Bz:= @Array.getElem?_replicate
def Cq:= @List.getElem?_append_left
def tI:= @List.all_cons
def sA:= @Sem.run_bind
def y0:= @List.getElem?_drop
def sE:= @Nat.zero_add
def DC:= @List.getElem?_take_of_lt
def uM:= @List.map_cons
def By:= @Nat.mul_le_mul_right
def xk:= @Bool.eq_iff_iff
def zh:= @Bool.not_eq_true'
def yZ:= @List.cons_append
def wY:= @Bool.true_and
def Bx:= @List.mem_singleton
def xR:= @List.drop_drop
def AR:= @decide_eq_decide
def AQ:= @IntKind.wrap_i64
def zg:= @Bool.or_eq_true
def Cp:= @Stepped.next.injEq
def Bw:= @List.length_take
def Bv:= @List.mem_append
def MU:= @List.take_succ_eq_append_getElem
def FQ:= @List.mem_append_left
def KO:= @Array.getD_eq_getD_getElem?
def Bu:= @Bool.not_false
def Co:= @Nat.min_eq_left
def Cn:= @List.append_nil
def xQ:= @Prod.mk.inj
def DB:= @Bool.not_eq_true
def AP:= @getD_set_true
def MS:= @List.drop_append_of_le_length
def Bs:= @Bool.false_or
def EZ:= @List.any_eq_true
def HX:= @Array.length_toList
def JB:= @List.singleton_append
def JA:= @Bool.or_eq_false_iff
def Br:= @List.mem_map
def AO:= @Nat.add_mul
def KN:= @MapKept.run_getObj_map
def A6:= @Option.some.injEq
def tN:= @bne_iff_ne
def tM:= @Nat.blt_eq
def xm:= @List.any_cons
def yL:= @List.take_take
def A4:= @beq_self_eq_true
def EG:= @Bool.and_eq_true_iff
def A3:= @List.take_length
def Cu:= @Int.toNat_natCast
def A2:= @List.length_map
def Ct:= @List.length_drop
def A1:= @heap_alloc_new
def wk:= @beq_iff_eq
def IB:= @List.getElem?_cons_zero
def vA:= @mem_ready
def yK:= @getD_set_ne
def Cs:= @List.drop_take
def IA:= @List.getElem?_eq_none
def EE:= @Bool.decide_and
def FW:= @List.size_toArray
def Cr:= @List.cons.inj
def Pa:= @List.idxOf_lt_length_of_mem
def Iy:= @Nat.lt_of_lt_of_le
def FV:= @List.length_set
def vz:= @Iff.rfl
def KU:= @List.contains_iff_mem
def Ix:= @Bool.eq_false_iff
def Iw:= @List.getElem?_map
def KT:= @List.drop_eq_nil_iff
def ED:= @Sem.run_pure
def EC:= @Sem.runT_fst
def EB:= @List.map_nil
def Iv:= @List.getElem_mem
def EA:= @Nat.le_of_eq
def KS:= @beq_eq_false_iff_ne
def O8:= @List.mem_singleton_self
def Iu:= @List.map_append
def Is:= @Option.map_some
def O7:= @Array.toList_replicate
def O6:= @MapKept.run_setObj_map
def O5:= @Option.map_eq_some_iff
def O4:= @List.drop_eq_nil_of_le
def KP:= @List.ext_getElem?
def O3:= @Array.getElem?_toList
def FU:= @Nat.sub_self
def O0:= @List.mem_append_right
def OZ:= @List.countP_replicate
def FT:= @Nat.add_zero
def OY:= @MapKept.run_checkKey
def FS:= @Nat.mul_one

def HW:Obj->Obj->Prop
 | .cells c E fr,o' => ∃ah:List Value,o' = .cells (c.toList++ah).toArray E fr
 |o,o' =>o' =o
variable{o:Oper}
def xx(o:Obj):HW o o:=by
 cases o<;>first|rfl|exact⟨[],by simp⟩
variable{c:Code}{cells:List Value}{ah:Nat}{fr:Nat×Nat}{k:Nat}{o' :Obj}
def IY{o o'' :Obj}(h:HW o o')(k:HW o' o''):HW o o'' :=by
 cases o with
 |cells c E fr=>
  obtain⟨ah,rfl⟩:=h
  obtain⟨d',rfl⟩:=k
  exact⟨ah++d',by simp⟩
 |_=>cases h;exact k
variable{off:Nat}
def GM{c:Array Value}{E:TypeId}(h:HW (.cells c E fr) o'){n:Nat}(hl:((c.toList.drop off).take n).length=n):
  ∃c',o' = .cells c' E fr/\(c'.toList.drop off).take n=(c.toList.drop off).take n:=by
 obtain⟨ah,rfl⟩:=h
 refine⟨_,rfl,?_⟩
 by_cases hn:n=0
 ·subst hn;simp
 simp only [Bw,Ct]at hl
 rw [MS (by omega),za (by simp only [Ct];omega)]
abbrev SH:=Nat->Option Obj
def su(S S' :SH):Prop:= ∀b o,S b=some o-> ∃o',S' b=some o' /\HW o o'
variable{S:SH}
def SH.le_refl(S:SH):su S S:=fun _ o h=>⟨o,h,xx o⟩
variable{S' S'' :SH}{b:Bool}{e:TypeId}
def SH.le_trans(h:su S S')(k:su S' S''):su S S'' :=fun b o e=>let⟨o',H,J⟩:=h b o e;let⟨o'',h3,h4⟩:=k b o' H;⟨o'',h3,IY J h4⟩
structure Ty where
 p:SH->Value->Prop
 mono: ∀{S S' :SH} {v:Value},su S S' ->p S v->p S' v

structure Rp(α:Type) where
 sz:Nat
 agg:Bool
 rc:SH->List Value->α->Prop
 mono: ∀{S S' :SH} {cs:List Value} {x:α},su S S' ->rc S cs x->rc S' cs x
 len: ∀{S:SH} {cs:List Value} {x:α},rc S cs x->cs.length=sz
 one: ∀{S:SH} {cs:List Value} {x:α},rc S cs x-> ∀c∈cs,c.oneCell' =true
 sc:agg=false->sz=1

def Rp.val{α:Type}(r:Rp α)(cs:List Value):Value:=if r.agg then .agg cs.toArray else cs.headD undef

def Z{α:Type}(r:Rp α)(x:α):Ty where
 p:=fun S v=> ∃cs,v=r.val cs/\r.rc S cs x
 mono:=fun h ⟨cs,e,k⟩=>⟨cs,e,r.mono h k⟩

def tS:Ty where
 p:=fun _ _=>True
 mono:=fun _ _=>trivial

def tV(u:Value):Ty where
 p:=fun _ v=>v=u
 mono:=fun _ h=>h

def rI(k:IntKind):Rp Int where
 sz:=1
 agg:=false
 rc:=fun _ cs x=>cs=[.int k x]
 mono:=fun _ h=>h
 len:=fun h=>by rw [h];rfl
 one:=fun h c hc=>by subst h;simp at hc;subst hc;rfl
 sc:=fun _=>rfl

def rB:Rp Bool where
 sz:=1
 agg:=false
 rc:=fun _ cs x=>cs=[.bool x]
 mono:=fun _ h=>h
 len:=fun h=>by rw [h];rfl
 one:=fun h c hc=>by subst h;simp at hc;subst hc;rfl
 sc:=fun _=>rfl

abbrev cX:=List UInt8
def rS:Rp cX where
 sz:=1
 agg:=false
 rc:=fun _ cs x=>cs=[.string ⟨x.toArray⟩]
 mono:=fun _ h=>h
 len:=fun h=>by rw [h];rfl
 one:=fun h c hc=>by subst h;simp at hc;subst hc;rfl
 sc:=fun _=>rfl

variable{cs:List Value}{v:Value}
def f8{k:IntKind}{n:Int}:(Z (rI k) n).p S v↔v= .int k n:=by
 constructor
 ·rintro⟨cs,rfl,h⟩;have h' :cs=[.int k n]:=h;subst h';rfl
 ·rintro rfl;exact⟨[.int k n],rfl,rfl⟩
def kP:(Z rB b).p S v↔v= .bool b:=by
 constructor
 ·rintro⟨cs,rfl,h⟩;have h' :cs=[.bool b]:=h;subst h';rfl
 ·rintro rfl;exact⟨[.bool b],rfl,rfl⟩
variable{α:Type}{s:Sem α}
def uu{s:cX}:(Z rS s).p S v↔v= .string ⟨s.toArray⟩:=by
 constructor
 ·rintro⟨cs,rfl,h⟩;have h' :cs=[.string ⟨s.toArray⟩]:=h;subst h';rfl
 ·rintro rfl;exact⟨[.string ⟨s.toArray⟩],rfl,rfl⟩

def ul{α:Type}(r:Rp α)(S:SH):List Value->List α->Prop
 |cs,[]=>cs=[]
 |cs,x::xs=> ∃a b,cs=a++b/\r.rc S a x/\ul r S b xs
variable{a:Act}{xs:List α}
def tZ{α:Type}{r:Rp α}{S S' :SH}(h:su S S'): ∀{xs:List α} {cs:List Value},ul r S cs xs->ul r S' cs xs
 |[],_,k=>k
 |_::_,_,⟨a,b,e,H,J⟩=>⟨a,b,e,r.mono h H,tZ h J⟩
variable{x:Operand}
def mC{α:Type}{r:Rp α}{S:SH}: ∀{xs:List α} {cs:List Value},ul r S cs xs->cs.length=xs.length*r.sz
 |[],_,k=>by rw [show _=_ from k];simp
 |x::xs,_,⟨a,b,e,H,J⟩=>by rw [e,pg,r.len H,mC J,ji,AO];omega
def CQ{α:Type}{r:Rp α}{S:SH}: ∀{xs:List α} {cs:List Value},ul r S cs xs-> ∀c∈cs,c.oneCell' =true
 |[],_,k,c,hc=>by rw [show _=_ from k]at hc;cases hc
 |x::xs,_,⟨a,b,e,H,J⟩,c,hc=>by
  rw [e]at hc
  rcases Bv.1 hc with h|h
  ·exact r.one H c h
  ·exact CQ J c h
variable{ys:List α}
def vO{α:Type}{r:Rp α}{S:SH}: ∀{xs ys:List α} {cs ds:List Value},ul r S cs xs->ul r S ds ys->ul r S (cs++ds) (xs++ys)
 |[],_,_,_,k,h=>by rw [show _=_ from k];exact h
 |_::_,_,_,_,⟨a,b,e,H,J⟩,h=>⟨a,_,by rw [e,gF],H,vO J h⟩
def rq{α:Type}{r:Rp α}{S:SH}: ∀{xs ys:List α} {cs:List Value},ul r S cs (xs++ys)->
  ul r S (cs.take (xs.length*r.sz)) xs/\ul r S (cs.drop (xs.length*r.sz)) ys
 |[],_,_,k=>by simp [ul];exact k
 |x::xs,ys,cs,⟨a,b,e,H,J⟩=>by
  have hl:=r.len H
  have ih:=rq J
  have e1:(x::xs).length*r.sz=a.length+xs.length*r.sz:=by rw [hl,ji,AO];omega
  rw [e,e1,List.take_length_add_append,List.drop_length_add_append]
  exact⟨⟨a,_,rfl,H,ih.1⟩,ih.2⟩
def ND{r:Rp α}{x:α}:ul r S cs [x]↔r.rc S cs x:=by
 constructor
 ·rintro⟨a,b,rfl,h,A⟩
  rw [show b=[]from A,Cn];exact h
 ·intro h;exact⟨cs,[],by simp,h,rfl⟩
variable{i:Nat}
def CS{r:Rp α}(h:ul r S cs xs){x:α}(D:xs[i]? =some x):
  r.rc S ((cs.drop (i*r.sz)).take r.sz) x:=by
 have hi:i<xs.length:=(kN.1 D).1
 have e:xs=xs.take i++(x::xs.drop (i+1)):=by
  have:=kN.1 D
  rw [<-this.2,<-sH hi,uN]
 have hl:(xs.take i).length=i:=by simp;omega
 rw [e]at h
 have J:=(rq h).2
 rw [hl]at J
 obtain⟨a,b,e2,h3,_⟩:=J
 rw [e2,<-r.len h3,List.take_left]
 exact h3

def IK{α:Type}(r:Rp α)(S:SH)(a:Option Addr)(xs:List α):Prop:=
 xs=[]\/ ∃b off c E fr,a=some ⟨b,off,none⟩/\S b=some (.cells c E fr)/\ul r S ((c.toList.drop off).take (xs.length*r.sz)) xs
def eM{α:Type}(r:Rp α):Rp (List α) where
 sz:=1
 agg:=false
 rc:=fun S cs xs=> ∃a cap,cs=[.slice a xs.length cap]/\xs.length<=cap/\cap<=maxLen/\IK r S a xs
 mono:=fun h ⟨a,cap,e,H,J,h3⟩=>⟨a,cap,e,H,J,h3.imp id fun⟨b,off,c,E,fr,e1,e2,e3⟩=>by
  obtain⟨o',h4,h5⟩:=h _ _ e2
  obtain⟨c',rfl,h6⟩:=GM h5 (mC e3)
  exact⟨b,off,c',E,fr,e1,h4,by rw [h6];exact tZ h e3⟩⟩
 len:=fun⟨a,cap,e,_⟩=>by rw [e];rfl
 one:=fun⟨a,cap,e,_⟩ c hc=>by rw [e]at hc;simp at hc;subst hc;rfl
 sc:=fun _=>rfl
variable{cap:Nat}
def m4{r:Rp α}:(Z (eM r) xs).p S v↔ ∃a cap,v= .slice a xs.length cap/\xs.length<=cap/\cap<=maxLen/\IK r S a xs:=by
 constructor
 ·rintro⟨cs,rfl,a,cap,rfl,h⟩;exact⟨a,cap,rfl,h⟩
 ·rintro⟨a,cap,rfl,h⟩;exact⟨_,rfl,a,cap,rfl,h⟩
def Cz{r:Rp α}:(Z (eM r) []).p S (.slice none 0 0):=m4.2 ⟨none,0,rfl,f7 _,jR _,.inl rfl⟩

def bo{α:Type}(r:Rp α)(x:α):Ty where
 p:=fun S v=> ∃b off c E fr,v= .pointer (some ⟨b,off,none⟩)/\S b=some (.cells c E fr)/\r.rc S ((c.toList.drop off).take r.sz) x
 mono:=fun h ⟨b,off,c,E,fr,e1,e2,e3⟩=>by
  obtain⟨o',h4,h5⟩:=h _ _ e2
  obtain⟨c',rfl,h6⟩:=GM h5 (r.len e3)
  exact⟨b,off,c',E,fr,e1,h4,by rw [h6];exact r.mono h e3⟩

def glob:List (Nat×List Value):=[(0,[.string ⟨([98,111,111,108]:List UInt8).toArray⟩,.int .i64 (1),.string ⟨([105,110,116]:List UInt8).toArray⟩,.int .i64 (2),.string ⟨([116,101,120,116]:List UInt8).toArray⟩,.int .i64 (3)]),(1,[.string ⟨([83,69,76,69,67,84]:List UInt8).toArray⟩,.string ⟨([68,73,83,84,73,78,67,84]:List UInt8).toArray⟩,.string ⟨([70,82,79,77]:List UInt8).toArray⟩,.string ⟨([76,69,70,84]:List UInt8).toArray⟩,.string ⟨([74,79,73,78]:List UInt8).toArray⟩,.string ⟨([79,78]:List UInt8).toArray⟩,.string ⟨([87,72,69,82,69]:List UInt8).toArray⟩,.string ⟨([71,82,79,85,80]:List UInt8).toArray⟩,.string ⟨([66,89]:List UInt8).toArray⟩,.string ⟨([72,65,86,73,78,71]:List UInt8).toArray⟩,.string ⟨([85,78,73,79,78]:List UInt8).toArray⟩,.string ⟨([65,76,76]:List UInt8).toArray⟩,.string ⟨([79,82,68,69,82]:List UInt8).toArray⟩,.string ⟨([76,73,77,73,84]:List UInt8).toArray⟩,.string ⟨([65,83,67]:List UInt8).toArray⟩,.string ⟨([68,69,83,67]:List UInt8).toArray⟩,.string ⟨([65,83]:List UInt8).toArray⟩,.string ⟨([65,78,68]:List UInt8).toArray⟩,.string ⟨([79,82]:List UInt8).toArray⟩,.string ⟨([78,79,84]:List UInt8).toArray⟩,.string ⟨([73,83]:List UInt8).toArray⟩,.string ⟨([78,85,76,76]:List UInt8).toArray⟩,.string ⟨([84,82,85,69]:List UInt8).toArray⟩,.string ⟨([70,65,76,83,69]:List UInt8).toArray⟩,.string ⟨([67,79,85,78,84]:List UInt8).toArray⟩,.string ⟨([83,85,77]:List UInt8).toArray⟩,.string ⟨([77,73,78]:List UInt8).toArray⟩,.string ⟨([77,65,88]:List UInt8).toArray⟩])]
def QZ(w:World):Prop:=Lib.CaseVar 2 Lib.caseA w/\Lib.Utf8Tabs 4 5 w
structure mU(w:World)(S:SH):Prop where
 at_: ∀b o,S b=some o-> ∃o',w.heap[b]? =some o' /\HW o o'
 gl: ∀p∈glob,∃c T fr,S p.1=some (.cells c T fr)/\c.toList.take p.2.length=p.2
 tb: ∀w' :World,(∀b o,S b=some o-> ∃o',w'.heap[b]? =some o' /\HW o o')->QZ w'
instance{w:World}{S:SH}:CoeFun (mU w S) (fun _=> ∀b o,S b=some o-> ∃o',w.heap[b]? =some o' /\HW o o'):=⟨mU.at_⟩
variable{w:World}
def mU.tab(h:mU w S):QZ w:=h.tb w h.at_
def mU.lt(h:mU w S){b:Nat}{o:Obj}(k:S b=some o):b<w.heap.size:=let⟨_,H,_⟩:=h b o k;(BA.1 H).1
def mU.part(h:mU w S){b:Nat}{c:Array Value}{E:TypeId}(k:S b=some (.cells c E fr)){n:Nat}(hl:((c.toList.drop off).take n).length=n):
  ∃c',w.heap[b]? =some (.cells c' E fr)/\(c'.toList.drop off).take n=(c.toList.drop off).take n:=by
 obtain⟨o',H,J⟩:=h b _ k
 obtain⟨c',rfl,h3⟩:=GM J hl
 exact⟨c',H,h3⟩
variable{w' :World}
def mU.same(h:mU w S)(k: ∀b o,S b=some o->w'.heap[b]? =w.heap[b]?):mU w' S:=⟨fun b o e=>by rw [k b o e];exact h b o e,h.gl,h.tb⟩

def wC:Nat->Prop:=fun _=>False
structure lq(B:Nat->Prop)(w:World)(S:SH)(w' :World)(S' :SH):Prop where
 os:w'.os=w.os
 tape:w'.tape=w.tape
 output:w'.output=w.output
 drawn:w.drawn<=w'.drawn
 size:w.heap.size<=w'.heap.size
 heap: ∀k,k<w.heap.size-> ¬B k->w'.heap[k]? =w.heap[k]?
 keep:su S S'
 old: ∀k,k<w.heap.size-> ¬B k->S' k=S k
def lq.refl(B:Nat->Prop)(w:World)(S:SH):lq B w S w S:=⟨rfl,rfl,rfl,f7 _,f7 _,fun _ _ _=>rfl,SH.le_refl _,fun _ _ _=>rfl⟩
variable{w'' :World}
def lq.trans{B:Nat->Prop}(h:lq B w S w' S')(k:lq B w' S' w'' S''):lq B w S w'' S'' :=
 ⟨k.os.trans h.os,k.tape.trans h.tape,k.output.trans h.output,oj h.drawn k.drawn,oj h.size k.size,
  fun i hi A=>(k.heap i (Iy hi h.size) A).trans (h.heap i hi A),SH.le_trans h.keep k.keep,
  fun i hi A=>(k.old i (Iy hi h.size) A).trans (h.old i hi A)⟩
variable{C:Nat->Prop}
def lq.step{B:Nat->Prop}(h:lq B w S w' S')(k:lq C w' S' w'' S'')(hC: ∀b,C b->w.heap.size<=b\/B b):lq B w S w'' S'' :=
 ⟨k.os.trans h.os,k.tape.trans h.tape,k.output.trans h.output,oj h.drawn k.drawn,oj h.size k.size,
  fun i hi A=>(k.heap i (Iy hi h.size) (fun hc=>(hC i hc).elim (fun h=>by omega) A)).trans (h.heap i hi A),SH.le_trans h.keep k.keep,
  fun i hi A=>(k.old i (Iy hi h.size) (fun hc=>(hC i hc).elim (fun h=>by omega) A)).trans (h.old i hi A)⟩
def lq.more{B:Nat->Prop}(h:lq B w S w' S')(k: ∀b,B b->C b):lq C w S w' S' :=
 ⟨h.os,h.tape,h.output,h.drawn,h.size,fun i hi A=>h.heap i hi (fun h=>A (k i h)),h.keep,fun i hi A=>h.old i hi (fun h=>A (k i h))⟩
def lq.step0{B:Nat->Prop}(h:lq B w S w' S')(k:lq wC w' S' w'' S''):lq B w S w'' S'' :=h.step k fun _ A=>A.elim

structure OE where
 fp:Nat->Prop
 p:World->SH->Prop
 here: ∀{w S},p w S-> ∀k,fp k->k<w.heap.size
 kept: ∀{C w w' S S'},p w S->lq C w S w' S' ->(∀k,fp k-> ¬C k)->p w' S'
def OE.holds(e:OE)(base:Nat)(B:Nat->Prop)(w:World)(S:SH):Prop:=e.p w S/\ ∀k,e.fp k->base<=k\/B k
def OE.apart(e f:OE):Prop:= ∀b,e.fp b-> ¬f.fp b
def dA(base:Nat)(B:Nat->Prop)(w:World)(S:SH):List OE->Prop
 |[]=>True
 |e::O=>e.holds base B w S/\(∀f∈O,e.apart f)/\dA base B w S O
def KK{e:OE}{base:Nat}{B:Nat->Prop}(h:e.holds base B w S)(k:lq C w S w' S')(hC: ∀b,e.fp b-> ¬C b):e.holds base B w' S' :=⟨e.kept h.1 k hC,h.2⟩
variable{O:List OE}{f:FuncId}
def dA.ext{base:Nat}{B:Nat->Prop}(k:lq C w S w' S'): ∀{O:List OE},dA base B w S O->(∀e∈O,∀b,e.fp b-> ¬C b)->dA base B w' S' O
 |[],_,_=>trivial
 |e::_,⟨H,J,h3⟩,hC=>⟨KK H k (hC e (oh ..)),J,dA.ext k h3 fun f hf=>hC f (oO _ hf)⟩
def dA.ext0{base:Nat}{B:Nat->Prop}(k:lq wC w S w' S')(h:dA base B w S O):dA base B w' S' O:=
 h.ext k fun _ _ _ _ A=>A
def dA.mem{base:Nat}{B:Nat->Prop}: ∀{O:List OE},dA base B w S O-> ∀e∈O,e.holds base B w S
 |_::_,⟨H,_,_⟩,_,.head _=>H
 |_::_,⟨_,_,h3⟩,_,.tail _ hm=>dA.mem h3 _ hm

abbrev mM:=List (Nat×Ty)
def look:mM->Nat->Option Ty
 |[],_=>none
 |(k,t)::G,j=>bif Nat.beq k j then some t else look G j
structure Fr where
 n:Nat
 ds:List Deferred
structure dm(N:Fr)(S:SH)(a:Act)(G:mM):Prop where
 size:a.tmps.size=N.n
 defers:a.defers=N.ds
 at_: ∀k t,look G k=some t->t.p S (a.tmps.getD k undef)
variable{G:mM}{j:Nat}{t:Ty}
def dm.mono{N:Fr}(h:dm N S a G)(k:su S S'):dm N S' a G:=⟨h.size,h.defers,fun j t e=>t.mono k (h.at_ j t e)⟩
def dm.sub{N:Fr}{G' :mM}(h:dm N S a G)(k: ∀j t,look G' j=some t->look G j=some t):dm N S a G' :=⟨h.size,h.defers,fun j t e=>h.at_ j t (k j t e)⟩
variable{u:OE}
def dm.put{N:Fr}(h:dm N S a G)(hd:Nat.blt ah N.n=true)(hv:t.p S v):dm N S (a.put (some ah) v) ((ah,t)::G):=by
 have hd' :ah<N.n:=by simpa [tM] using hd
 refine⟨by simp [Act.put,h.size],h.defers,fun j u e=>?_⟩
 unfold look at e
 by_cases hj:ah=j
 ·subst hj
  have e' :t=u:=by simpa using e
  rw [e']at hv
  simp [Act.put,KO,h.size,hd',hv]
 ·have A:Nat.beq ah j=false:=by cases hh:Nat.beq ah j with
   |false=>rfl
   |true=>exact absurd (qZ hh) hj
  rw [A]at e
  have:=h.at_ j u e
  simpa [Act.put,KO,Array.getElem?_setIfInBounds,hj] using this
def Q3:mM->mM->Prop
 |[],_=>True
 |(k,t)::G',G=>look G k=some t/\Q3 G' G
def IG: ∀{G' G:mM},Q3 G' G-> ∀j t,look G' j=some t->look G j=some t
 |(k,t)::G',G,⟨H,J⟩,j,u,e=>by
  unfold look at e
  by_cases A:Nat.beq k j=true
  ·rw [A]at e
   have:=qZ A
   subst this
   simp only [cond_true]at e
   rw [<-e];exact H
  ·rw [DB]at A
   rw [A]at e
   exact IG J j u e

def bk(N:Fr)(G:mM)(x:Operand)(t:Ty):Prop:= ∀S a,dm N S a G->t.p S (a.eval x)
def M{N:Fr}(h:look G k=some t):bk N G (.tmp k) t:=fun _ _ hF=>hF.at_ k t h
def hI{N:Fr}{k:IntKind}{n:Int}:bk N G (.const (.int k n)) (Z (rI k) n):=fun _ _ _=>f8.2 rfl
def hB{N:Fr}:bk N G (.const (.bool b)) (Z rB b):=fun _ _ _=>kP.2 rfl
def hS{N:Fr}{s:Array UInt8}:bk N G (.const (.string ⟨s⟩)) (Z rS s.toList):=fun _ _ _=>uu.2 rfl
def RH{N:Fr}{r:Rp α}:bk N G (.const (.slice none 0 0)) (Z (eM r) []):=fun _ _ _=>Cz
def hV{N:Fr}:bk N G (.const v) (tV v):=fun _ _ _=>rfl

variable{R:Ending->World->Prop}{args:α->List Ty}{bytes:Nat}{done:Array Bool}{es:Array Event}{g:Option (Nat×Bool)}{gs:Nat}{l:Option Nat}{m m' :Machine}{ops:Array Oper}{q:Bool}{rest:List Oper}
section
variable{P:Program}
def wOf{α:Type}:Result α->World
 | .ok _ w=>w
 | .halt _ w=>w
def J9(w:World)(a:Addr)(n:Nat):(w.freeze a n).drawn=w.drawn:=by unfold World.freeze;split<;>rfl
def E5{at_:Addr}{u:TypeId}{k:Addr}{x:Bool}{r:World×List Addr}(h:w.viewStore P at_ u k v x= .ok r):r.1.drawn=w.drawn:=by
 unfold World.viewStore at h
 simp only [bind,Except.bind,pure,Except.pure,throw,throwThe,MonadExceptOf.throw]at h
 repeat' (split at h)
 all_goals first
  |(cases h;done)
  |(cases h;rfl)
def Hl{a:Addr}{x:Bool}{r:World×List Addr}(h:w.farStore P a v x= .ok r):r.1.drawn=w.drawn:=by
 unfold World.farStore at h
 split at h
 ·split at h
  ·rename_i J;cases h;exact E5 J
  ·cases h
 ·cases h
def Et{α:Type}: ∀(a:Ask α) (w:World),w.drawn<=(w.ask a).2.drawn
 | .done a,w=>f7 _
 | .ask what range k,w=>by
  unfold World.ask
  simp only
  split
  ·exact Et (k 0) w
  ·exact oj (Nat.le_succ _) (Et (k ((Question.extern what range).cut (w.tape w.drawn (Question.extern what range)))) {w with drawn:=w.drawn+1})
def Q0(w:World)(c:Sys):w.drawn<=(w.sys c).2.drawn:=by
 unfold World.sys
 have h:=Et (Kernel.perform c w.os) w
 split
 ·exact f7 _
 ·rename_i J
  rw [J]at h
  exact h
def iP{α:Type}: ∀(s:Sem α) (w:World),w.drawn<=(wOf (s.run P w)).drawn
 | .pure a,w=>f7 _
 | .load m a k,w=>by
  unfold Sem.run
  split
  ·exact iP _ w
  ·split
   ·exact iP _ w
   ·exact f7 _
 | .store m a v k,w=>by
  have key:w.drawn<=(wOf (match w.cell? a with
   |some _=>if w.frozen? a then .halt (.unsupported (.unsafePointer "a write to bytes that a string shares")) w else k.run P (w.setCell a v)
   |none=>match w.farStore P a v (m== .atomic)with
    | .ok (w,_)=>k.run P w
    | .error h=> .halt h w)).drawn:=by
   split
   ·split
    ·exact f7 _
    ·exact iP k (w.setCell a v)
   ·split
    ·rename_i w' l h
     have:=iP k w'
     rw [show w'.drawn=w.drawn from Hl h]at this
     exact this
    ·exact f7 _
  cases v<;>first|exact f7 _|(simp only [Sem.run];exact key)
 | .new o k,w=>iP (k w.heap.size) {w with heap:=w.heap.push o}
 | .shape r k,w=>iP (k (w.shape? r)) w
 | .freeze a n k,w=>by
  have:=iP k (w.freeze a n)
  rw [J9]at this
  exact this
 | .frozen a k,w=>iP (k (w.frozen? a)) w
 | .getObj r k,w=>by
  unfold Sem.run
  split
  ·exact f7 _
  ·exact iP _ w
  ·exact f7 _
 | .setObj r o k,w=>by
  unfold Sem.run
  split
  ·exact f7 _
  ·exact iP k {w with heap:=w.heap.setIfInBounds r o}
  ·exact f7 _
 | .choose q k,w=>by
  unfold Sem.run
  split
  ·exact iP (k 0) w
  ·exact oj (Nat.le_succ _) (iP (k (q.cut (w.tape w.drawn q))) {w with drawn:=w.drawn+1})
 | .sys c k,w=>by
  exact oj (Q0 w c) (iP (k (w.sys c).1) (w.sys c).2)
 | .program k,w=>iP (k P) w
 | .mark m k,w=>iP k w
 | .halt h,w=>f7 _
def dD{x:α}(h:s.run P w= .ok x w'):w.drawn<=w'.drawn:=by
 have:=iP (P:=P) s w
 rw [h]at this
 exact this
def pC{x:Halt}(h:s.run P w= .halt x w'):w.drawn<=w'.drawn:=by
 have:=iP (P:=P) s w
 rw [h]at this
 exact this
def Rv{x:α}{es' :Array Event}(h:s.runT P w es=(.ok x w',es')):w.drawn<=w'.drawn:=
 dD (P:=P) (s:=s) (x:=x) (by rw [<-EC P s w es,h])
def Mb{x:Halt}{es' :Array Event}(h:s.runT P w es=(.halt x w',es')):w.drawn<=w'.drawn:=
 pC (P:=P) (s:=s) (x:=x) (by rw [<-EC P s w es,h])
def E4{rest:Rest}{cases:Array CommCase}(h:waitingAt rest cases w=some w'):w'.drawn=w.drawn:=by
 unfold waitingAt at h
 repeat' (split at h)
 all_goals (cases h;try rfl)
def Dm(rest:Rest)(gs:Array Goroutine)(i:Nat)(g:Goroutine)(cases:Array CommCase)(blocking:Bool)
  (shape:CommShape)(w:World)(m' :Machine)(h:(communicate P rest gs i g cases blocking shape w).1= .next m'):w.drawn<=m'.world.drawn:=by
 unfold communicate at h
 simp only []at h
 repeat' first
  |(simp at h;done)
  |(simp only [Cp]at h;subst h;(try dsimp only);exact f7 _)
  |(simp only [Cp]at h;subst h;(try dsimp only);exact dD (by assumption))
  |(simp only [Cp]at h;subst h;(try dsimp only);exact EA (E4 (by assumption)).symm)
  |(simp only [Cp]at h;subst h;(try dsimp only);exact oj (dD (by assumption)) (dD (by assumption)))
  |(simp only [Cp]at h;subst h;(try dsimp only);exact oj (dD (by assumption)) (pC (by assumption)))
  |split at h
def GV(gs:Array Goroutine)(rest:Rest)(w:World)(m' :Machine)
  (h:Go.look P gs rest w= .next m'):w.drawn<=m'.world.drawn:=by
 unfold Go.look at h
 simp only []at h
 repeat' first
  |(simp at h;done)
  |(simp only [Cp]at h;subst h;(try dsimp only);exact dD (by assumption))
  |split at h
def FB(ah:Nat):GStep->Prop
 | .go _ w _=>ah<=w.drawn
 | .comm _ _ _ _ w _=>ah<=w.drawn
 | .spawn _ _ w _=>ah<=w.drawn
 | .count _ w _=>ah<=w.drawn
 | .timer _ _ w _=>ah<=w.drawn
 | .alone _ _ w _=>ah<=w.drawn
 | .newcoro _ _ _ w _=>ah<=w.drawn
 | .coroswitch _ _ _ w _=>ah<=w.drawn
 | .collect _ w _=>ah<=w.drawn
 | .watch _ w _=>ah<=w.drawn
 | .ended _ _ _=>True
def sS{s:GStep}(h:FB ah s):FB ah (s.after es):=by cases s<;>exact h
def vV{e:Nat}{s:GStep}(h:FB ah s)(k:e<=ah):FB e s:=by
 cases s<;>first|exact oj k h|trivial
def Ol(ah:Nat)(w:World)(fd:Nat)(text:ByteArray)(o:Outcome):FB ah (endWith w fd text o):=by
 unfold endWith
 repeat' split
 all_goals trivial
def TV(fr:Frame)(ii:List ByteArray)(m:String)(whole:Bool)(w:World):FB w.drawn (dieOf fr ii m whole w):=f7 _
def wS(fr:Frame)(m:String)(w:World):FB w.drawn (endThrow fr m w):=f7 _
def zX(fr:Frame)(v:Value)(w:World):FB w.drawn (endPrinting P fr v w):=by
 unfold endPrinting
 simp only []
 split
 ·exact f7 _
 ·trivial
def EW(fr:Frame)(callers:List Frame)(dying:Option Dying)(m:String)(w:World):FB w.drawn (endFatal P fr callers dying m w):=by
 unfold endFatal
 simp only []
 split
 ·exact vV (TV _ _ _ _ _) (dD (by assumption))
 ·trivial
 ·trivial
def MZ(fr:Frame)(ah:Dying)(f:Fatal)(w:World):FB w.drawn (writeOn P fr ah f w):=by
 unfold writeOn
 simp only []
 split
 ·trivial
 ·split
  ·exact Rv (by assumption)
  ·exact Mb (by assumption)
  ·trivial
  ·trivial
def Zm(fr:Frame)(ah:Dying)(w:World):FB w.drawn (die P fr ah w):=by
 unfold die
 simp only []
 split
 ·exact MZ _ _ _ _
 ·split
  ·split
   ·exact f7 _
   ·exact Ol _ _ _ _ _
  ·split
   ·exact f7 _
   ·split
    ·exact dD (by assumption)
    ·trivial
   ·apply sS
    split
    ·exact dD (P:=P) (by rw [<-EC];assumption)
    ·exact dD (P:=P) (by rw [<-EC];assumption)
    ·trivial
    ·exact vV (zX _ _ _) (pC (P:=P) (by rw [<-EC];assumption))
    ·trivial
   ·trivial
def sR{x:α}(h:(s.runT P w es).1= .ok x w'):w.drawn<=w'.drawn:=dD (P:=P) (s:=s) (x:=x) (by rw [<-EC P s w es,h])
def wG{x:Halt}(h:(s.runT P w es).1= .halt x w'):w.drawn<=w'.drawn:=pC (P:=P) (s:=s) (x:=x) (by rw [<-EC P s w es,h])
def zY(main:Bool)(fr:Frame)(callers:List Frame)(dying:Option Dying)(v:Value)(w:World):FB w.drawn (doReturn P main fr callers dying v w):=by
 unfold doReturn
 simp only []
 repeat' split
 all_goals first|exact f7 _|trivial
def J6{c:Prop} [Decidable c]{a b:GStep}(ha:FB ah a)(A:FB ah b):FB ah (if c then a else b):=by split<;>assumption
def Fm(fr:Frame)(callers:List Frame)(dying:Option Dying)(ah:Deferred)(w:World):FB w.drawn (callDeferred P fr callers dying ah w):=by
 unfold callDeferred
 simp only []
 refine J6 trivial (sS ?_)
 split
 all_goals first
  |exact sR (by assumption)
  |exact wG (by assumption)
  |trivial
  |exact vV (EW _ _ _ _ _) (wG (by assumption))
  |exact vV (wS _ _ _) (wG (by assumption))
  |(split<;>exact sR (by assumption))
def QV(main:Bool)(fr:Frame)(callers:List Frame)(dying:Option Dying)(w:World):FB w.drawn (unwind P main fr callers dying w):=by
 unfold unwind
 simp only []
 split
 ·apply sS
  split
  ·exact sR (by assumption)
  ·trivial
 ·exact Fm _ _ _ _ _
 ·split
  ·trivial
  ·split
   ·trivial
   ·split
    ·exact f7 _
    ·split
     ·split
      ·exact f7 _
      ·split
       ·exact dD (by assumption)
       ·trivial
       ·trivial
     ·split
      ·exact zX _ _ _
      ·trivial
  ·split
   ·exact zY _ _ _ _ _ _
   ·apply sS
    split
    ·exact vV (zY _ _ _ _ _ _) (sR (by assumption))
    ·trivial
    ·trivial
def TQ(fr:Frame)(callers:List Frame)(dying:Option Dying)(g:Nat)(w:World):FB w.drawn (early P fr callers dying g w):=by
 have hn: ∀w1:World,w.drawn<=w1.drawn->FB w.drawn (match w1.heap[g]? with
   |some (.pending c elem)=> .go {frame:=fr,callers,status:= .running,dying} {w1 with heap:=w1.heap.setIfInBounds g (.cells c elem)}
   |_=> .ended (.stuck "early: the variable does not wait" (fr.pos P)) w1):=fun w1 h=>by
  split
  ·exact h
  ·trivial
 unfold early
 simp only []
 repeat' first
  |trivial
  |exact hn _ (f7 _)
  |exact f7 _
  |exact hn _ (dD (by assumption))
  |exact dD (P:=P) (by assumption)
  |split
def z8(main:Bool)(listen:Bool)(fr:Frame)(callers:List Frame)(dying:Option Dying)(s:Sem Next)(w:World):FB w.drawn (stepG.apply P listen fr callers dying s w):=by
  unfold stepG.apply
  simp only []
  apply sS
  have hr:(if listen=true then s.runT P w #[]else(s.run P w,#[])).1=s.run P w:=by
    split
    · exact EC _ _ _ _
    · rfl
  rw [hr]
  split
  all_goals first
    |exact dD (by assumption)
    |exact pC (by assumption)
    |trivial
    |exact vV (EW _ _ _ _ _) (pC (by assumption))
    |exact vV (wS _ _ _) (pC (by assumption))
    |exact vV (TQ _ _ _ _ _) (pC (by assumption))
    | (repeat' split
       all_goals first
        |exact dD (by assumption)
        |exact vV (wS _ _ _) (dD (by assumption)))
def U6(main listen:Bool)(fr:Frame)(callers:List Frame)(dying:Option Dying)(w:World):FB w.drawn (stepG.oper P listen fr callers dying w):=by
 unfold stepG.oper
 split
 ·trivial
 ·split
  ·exact z8 main _ _ _ _ _ _
  ·exact z8 main _ _ _ _ _ _
def Ws(main listen:Bool)(fr:Frame)(callers:List Frame)(dying:Option Dying)(w:World):FB w.drawn (stepG.exec P main listen fr callers dying w):=by
 have leave: ∀(c:Prop) (_:Decidable c) (jump:Option Code),FB w.drawn (match fr.roundOf with
   |none=>if c then GStep.go {frame:={fr with mode:= .returning},callers,status:= .running,dying} w else .ended (.stuck "exit, goto: no such block or label" (fr.pos P)) w
   |some l=>GStep.after (seen P fr.fn ((Instr.endRound l jump).runT P w #[]).2) (match ((Instr.endRound l jump).runT P w #[]).1 with
    | .ok v w=>doReturn P main fr callers dying v w
    | .halt _ w=> .ended (.stuck "range over a function: no such loop" (fr.pos P)) w)):=fun c _ jump=>by
  split
  ·exact J6 (f7 _) trivial
  ·apply sS
   split
   ·exact vV (zY _ _ _ _ _ _) (sR (by assumption))
   ·trivial
 unfold stepG.exec
 simp only []
 split
 all_goals first
  |exact leave _ _ _
  |exact f7 _
  |exact z8 main _ _ _ _ _ _
  |trivial
  |(split<;>first|exact f7 _|trivial)
  |(cases h:exitTo _ _<;>first|exact f7 _|exact leave _ _ _)
  |(cases h:gotoIn _ _<;>first|exact f7 _|exact leave _ _ _)
  |(cases h:Extern.next _<;>first|trivial|exact z8 main _ _ _ _ _ _)
  |(apply sS;split<;>first|trivial|exact sR (by assumption)|exact wG (by assumption)|exact vV (z8 main _ _ _ _ _ _) (sR (by assumption)))
  |(refine J6 (f7 _) ?_;split<;>first|trivial|exact dD (by assumption))
  |(refine J6 ?_ (f7 _);exact U6 main _ _ _ _ _)
  |skip
def SD(main listen:Bool)(g:Goroutine)(w:World):FB w.drawn (stepG P main g w listen):=by
 unfold stepG
 simp only []
 split
 ·exact Zm _ _ _
 ·exact Ws _ _ _ _ _ _
 ·exact QV _ _ _ _ _
def H2{op:TimerOp}(h:timerOp m op= .ok (v,m')):m.world.drawn<=m'.world.drawn:=by
 have hr: ∀(m0:Machine) (k:Nat) (t:Timer) (when_ period:Nat),(retime m0 k t when_ period).2.world.drawn=m0.world.drawn:=fun m0 k t a b=>by
  unfold retime drain
  cases t.chan with
  |none=>rfl
  |some c=>simp only [];split<;>rfl
 have ho: ∀{var:Addr} {m0:Machine},timerOp.opened m var=some m0->m0.world.drawn=m.world.drawn:=fun{var m0} h=>by
  unfold timerOp.opened at h
  repeat' (split at h)
  all_goals (cases h;try rfl)
 have hn: ∀{var:Addr} {m0:Machine} {f:Nat->Timer->Value×Machine} {r:Value×Machine},timerOp.named m0 var f= .ok r-> ∃k t,r=f k t:=fun{var m0 f r} h=>by
  unfold timerOp.named at h
  split at h
  ·cases h;exact⟨_,_,rfl⟩
  ·cases h
 unfold timerOp at h
 split at h
 ·repeat' (split at h)
  all_goals first
   |(cases h;exact f7 _)
   |(cases h;done)
 ·obtain⟨k,t,e⟩:=hn h
  rw [show m' =(retime m k t 0 t.period).2 from congrArg Prod.snd e,hr]
  exact f7 _
 ·split at h
  ·rename_i m0 hm0
   obtain⟨k,t,e⟩:=hn h
   rw [show m' =(retime m0 k t _ _).2 from congrArg Prod.snd e,hr,ho hm0]
   exact f7 _
  ·cases h
 ·simp only [Except.ok.injEq,Prod.mk.injEq]at h
  rw [<-h.2]
  exact f7 _
def Mo{fr:Frame}{m:String}{g:Goroutine}(h:endThrow fr m w= .go g w' es):w.drawn<=w'.drawn:=by
 have:=wS fr m w
 rw [h]at this
 exact this
def Ny(m m' :Machine)(i:Nat)(b:Bool)(h:(runT P m i b).1= .next m'):m.world.drawn<=m'.world.drawn:=by
  simp only [runT]at h
  revert h
  generalize m.gs.swapAt! _ _=gg
  have hs:=SD (P:=P) (i==0) b gg.1 m.world
  revert hs
  generalize stepG P _ gg.1 m.world b=s
  intro hs h
  cases s<;>simp only []at h
  all_goals first
    |(simp at h;done)
    |exact oj hs (Dm _ _ _ _ _ _ _ _ _ h)
    |exact oj hs (GV _ _ _ _ h)
    |(simp only [Cp]at h;subst h;exact hs)
    |(repeat' first
        |(simp at h;done)
        |(simp only [Cp]at h;subst h;exact hs)
        |(simp only [Cp]at h;subst h;exact oj hs (H2 (by assumption)))
        |(simp only [Cp]at h;subst h;exact oj hs (Mo (by assumption)))
        |split at h)
def Ls(m m' :Machine)(k:Nat)(h:serve P m k= .next m'):m.world.drawn<=m'.world.drawn:=by
 unfold serve at h
 simp only []at h
 repeat' first
  |(simp at h;done)
  |(simp only [Cp]at h;subst h;exact f7 _)
  |split at h
def Mz(m m' :Machine)(ops:Array MemOp)(h:askOn P m= .machine (.next m') ops):m.world.drawn<=m'.world.drawn:=by
 unfold askOn at h
 simp only []at h
 repeat' first
  |(simp at h;done)
  |(simp only [Move.machine.injEq]at h;exact oj (dD (by assumption)) (Ls _ _ _ h.1))
  |(simp only [Move.machine.injEq,Cp]at h;obtain⟨rfl,_⟩:=h;(try simp only [Machine.advanceTo]);exact dD (by assumption))
  |(simp only [Move.machine.injEq,Cp]at h;obtain⟨rfl,_⟩:=h;(try simp only [Machine.advanceTo]);exact oj (dD (by assumption)) (dD (by assumption)))
  |split at h
def I4{gs:Array Goroutine}{rest:Rest}{t:Nat}{x:α}(h:s.run P (Machine.advanceTo {world:=w,gs:=gs,rest:=rest} t).world= .ok x w'):w.drawn<=w'.drawn:=by
 have:=dD h
 simpa only [Machine.advanceTo] using this
def KE(m m' :Machine)(i:Nat)(h:askOn P m= .goroutine m' i):m.world.drawn<=m'.world.drawn:=by
  unfold askOn at h
  simp only []at h
  repeat' first
    |(simp at h;done)
    |(simp only [Move.goroutine.injEq]at h;rw [<-h.1];(try simp only [Machine.advanceTo]);first
        |exact dD (by assumption)
        |exact oj (dD (by assumption)) (dD (by assumption))
        |exact oj (dD (by assumption)) (oj (dD (by assumption)) (dD (by assumption)))
        |exact oj (dD (by assumption)) (oj (dD (by assumption)) (oj (dD (by assumption)) (dD (by assumption))))
        |exact oj (dD (by assumption)) (oj (dD (by assumption)) (I4 (by assumption)))
        |exact oj (dD (by assumption)) (oj (dD (by assumption)) (oj (I4 (by assumption)) (dD (by assumption)))))
    |split at h
def HF(m:Machine):(∃m₂:Machine,m.world.drawn<=m₂.world.drawn/\ask P m=askOn P m₂)\/(∃o w,ask P m= .machine (.ended o w) #[]):=by
 unfold ask
 by_cases hw:m.rest.watch=true
 ·rw [cx hw]
  cases hc:(choose (.extern "collector.look" 2)).run P m.world with
  |halt h w=>exact .inr ⟨_,_,rfl⟩
  |ok k world=>
   have e1:=dD hc
   rcases k with _|_|k
   ·exact .inl ⟨{m with world},e1,rfl⟩
   ·show(∃m₂:Machine,m.world.drawn<=m₂.world.drawn/\(match Go.look P m.gs m.rest world with| .next m=>askOn P m|e=>Move.machine e)=askOn P m₂)\/
     (∃o w,(match Go.look P m.gs m.rest world with| .next m=>askOn P m|e=>Move.machine e)= .machine (.ended o w) #[])
    cases hl:Go.look P m.gs m.rest world with
    |next m₂=>exact .inl ⟨m₂,oj e1 (GV _ _ _ _ hl),rfl⟩
    |ended o w=>exact .inr ⟨o,w,rfl⟩
   ·exact .inl ⟨{m with world},e1,rfl⟩
 ·simp only [hw,kM,jh]
  exact .inl ⟨m,f7 _,rfl⟩
def NX(m m' :Machine)(ops:Array MemOp)(h:move P m= .machine (.next m') ops):m.world.drawn<=m'.world.drawn:=by
 have ha: ∀m1:Machine,m1.world.drawn=m.world.drawn->ask P m1= .machine (.next m') ops->m.world.drawn<=m'.world.drawn:=fun m1 e h=>by
  rcases HF (P:=P) m1 with⟨m₂,hs,he⟩|⟨o,w,he⟩
  ·rw [he]at h;rw [<-e];exact oj hs (Mz m₂ m' ops h)
  ·rw [he]at h;simp at h
 unfold move at h
 repeat' first
  |(simp at h;done)
  |(refine ha _ ?_ h;rfl)
  |split at h
def LS(m m' :Machine)(i:Nat)(h:move P m= .goroutine m' i):m.world.drawn<=m'.world.drawn:=by
 have ha: ∀m1:Machine,m1.world.drawn=m.world.drawn->ask P m1= .goroutine m' i->m.world.drawn<=m'.world.drawn:=fun m1 e h=>by
  rcases HF (P:=P) m1 with⟨m₂,hs,he⟩|⟨o,w,he⟩
  ·rw [he]at h;rw [<-e];exact oj hs (KE m₂ m' i h)
  ·rw [he]at h;cases h
 unfold move at h
 repeat' first
  |(simp at h;done)
  |(refine ha _ ?_ h;rfl)
  |(simp only [Move.goroutine.injEq]at h;rw [<-h.1];exact f7 _)
  |split at h
def Nm(h:step P m= .next m'):m.world.drawn<=m'.world.drawn:=by
 simp only [step,stepT]at h
 split at h
 ·rename_i m₁ i hm
  exact oj (LS m m₁ i hm) (Ny m₁ m' i _ h)
 ·rename_i s ops hm
  simp only []at h
  subst h
  exact NX m m' ops hm
def EI(h:Steps P m m'):m.world.drawn<=m'.world.drawn:=by
 obtain⟨n,hn⟩:=h
 induction n generalizing m with
 |zero=>simp only [runN,Cp]at hn;rw [hn];exact f7 _
 |succ n ih=>
  simp only [runN]at hn
  split at hn
  ·rename_i m1 H
   exact oj (Nm H) (ih hn)
  ·rename_i D
   exact absurd hn (D _)
def My{args:Array Value}(h:Calls P f args w R)(ho: ∀w',¬R .outgrown w'):Calls P f args w fun e w' =>R e w' /\w.drawn<=w'.drawn:=fun cs=>by
 obtain⟨e,w',fr,hr,hc,J⟩:=h cs
 refine⟨e,w',fr,⟨hr,?_⟩,hc,J⟩
 cases e with
 |outgrown=>exact absurd hr (ho w')
 |returned v=>exact EI (show Steps P _ _ from hc)
 |panicked c=>exact EI (show Steps P _ _ from hc)
end

def fw(r:Option Nat):Fence:={fn:=fun _=>True,depth:=none,alive:=false,round:=r}
def yB{r:Option Nat}{n:Nat}{P:Program}{args:Array Value}:CallsIn (fw r) n P f args w R↔Calls P f args w R:=callsIn_wide
def Mg{r:Option Nat}{n:Nat}:(fw r).depth.isSome=true->1<=n:=fun h=>by cases h
structure En where
 P:Program
 N:Fr
 B:Nat->Prop
 w0:World
 S0:SH
 r:Option Nat
def En.base(E:En):Nat:=E.w0.heap.size

def Yc(P:Program)(o:Oper)(a:Act)(aw:Act->World->Prop):Result Next->Prop
 | .ok (.value v) w' =>aw (a.put o.dst v) w'
 | .ok .skip w' =>aw (a.put o.dst undef) w'
 | .ok (.enter f args) w' =>Calls P f args w' fun e w'' => ∃v,e= .returned v/\aw (a.put o.dst v) w''
 | .ok (.round l f tmps assign body) w' =>RoundIn (fw none) 0 P l f tmps assign body w' fun e w'' => ∃v,e= .returned v/\aw (a.put o.dst v) w''
 |_=>False
def LN(P:Program)(o:Oper)(a:Act)(w:World)(aw:Act->World->Prop):Prop:=(∀c,o.op≠ .defer c)/\Yc P o a aw ((execOp a.eval o).run P w)
def Nz{r:Option Nat}{n:Nat}{P:Program}{l:Nat}{tmps:Array Value}{assign body:Code}(h:RoundIn (fw none) 0 P l f tmps assign body w R):RoundIn (fw r) n P l f tmps assign body w R:=
 ⟨trivial,fun c cs _=>h.2 c cs (fun _ hd=>by cases hd)⟩
variable{aw K' :Act->World->Prop}
def SV{P:Program}(hK: ∀a w,aw a w->K' a w){r:Result Next}(h:Yc P o a aw r):Yc P o a K' r:=by
 cases r with
 |ok n w=>
  cases n<;>simp only [Yc]at h ⊢
  case value=>exact hK _ _ h
  case skip=>exact hK _ _ h
  case enter f args=>exact h.mono fun e w' ⟨v,he,hk⟩=>⟨v,he,hK _ _ hk⟩
  case round l f tmps assign body=>exact h.mono fun e w' ⟨v,he,hk⟩=>⟨v,he,hK _ _ hk⟩
 |halt x w=>simp only [Yc]at h
def pZ{P:Program}(hK: ∀a w,aw a w->K' a w)(h:LN P o a w aw):LN P o a w K' :=⟨h.1,SV hK h.2⟩
variable{aC:Exit->Act->World->Prop}{β:Type}{res:β->Ty}
def mw{P:Program}{r:Option Nat}(hK: ∀a w,aw a w->K' a w)(h:LN P o a w aw):o.wpIn (fw r) 0 P a w K' aC:=by
 obtain⟨hd,h⟩:=h
 refine⟨fun _ _=>trivial,?_⟩
 rw [Oper.semAt_eq _ _ _ hd]
 generalize (execOp a.eval o).run P w=res at h
 cases res with
 |ok n w=>
  cases n<;>simp only [Yc]at h<;>simp only [Oper.uponIn]
  case value=>exact hK _ _ h
  case skip=>exact hK _ _ h
  case enter f args=>exact⟨Mg,yB.2 (h.mono fun e w' ⟨v,he,hk⟩=>by subst he;exact hK _ _ hk)⟩
  case round l f tmps assign body=>exact⟨Mg,(Nz h).mono fun e w' ⟨v,he,hk⟩=>by subst he;exact hK _ _ hk⟩
 |halt x w=>simp only [Yc]at h

def cH(E:En)(O:List OE)(G:mM)(o:Oper)(t:Ty):Prop:=
 ∀a w S,mU w S->dA E.base E.B w S O->dm E.N S a G->
  LN E.P o a w (fun a' w' => ∃v S',a' =a.put o.dst v/\lq wC w S w' S' /\mU w' S' /\t.p S' v)
structure St(E:En)(O:List OE)(G:mM)(a:Act)(w:World)(S:SH):Prop where
 ext:lq E.B E.w0 E.S0 w S
 sat:mU w S
 own:dA E.base E.B w S O
 facts:dm E.N S a G
def RG(E:En)(ops:Array Oper)(aC:Exit->Act->World->Prop)(l:List Oper)(O:List OE)(G:mM):Prop:= ∀a w S,St E O G a w S->wpListIn (fw E.r) 0 E.P ops aC l a w
def CG(E:En)(aC:Exit->Act->World->Prop)(c:Code)(O:List OE)(G:mM):Prop:= ∀a w S,St E O G a w S->c.wpIn (fw E.r) 0 E.P aC a w
def AT(E:En)(aC:Exit->Act->World->Prop)(e:Exit)(O:List OE)(G:mM):Prop:= ∀a w S,St E O G a w S->aC e a w

variable{after:Array Edge}{fn:Func}{pos:String}{ts:List Ty}{y:Code}
section
variable{E:En}{G' :mM}{l:List Oper}
def St.step(h:St E O G a w S)(k:lq wC w S w' S')(hs:mU w' S')(hd:Nat.blt ah E.N.n=true)(hv:t.p S' v):
  St E O ((ah,t)::G) (a.put (some ah) v) w' S' :=
 ⟨h.ext.step0 k,hs,h.own.ext0 k,(h.facts.mono k.keep).put hd hv⟩
def St.sub(h:St E O G a w S)(k:Q3 G' G):St E O G' a w S:=⟨h.ext,h.sat,h.own,h.facts.sub (IG k)⟩
def RG.of(V:o.guard=none)(h: ∀a w S,St E O G a w S->LN E.P o a w (fun a' w' =>wpListIn (fw E.r) 0 E.P ops aC l a' w')):RG E ops aC (o::l) O G:=fun a w S st=>
 wpListIn_plain V fun _ hK=>mw hK (h a w S st)

def Jr{op:Op}{ty:TypeId}(h:cH E O G ⟨some ah,op,ty,pos,after,none⟩ t)(hd:Nat.blt ah E.N.n=true)(k:RG E ops aC l O ((ah,t)::G)):
  RG E ops aC (⟨some ah,op,ty,pos,after,none⟩::l) O G:= .of rfl fun a w S st=>
 pZ (fun a' w' ⟨_,_,ha,he,hs,hv⟩=>by subst ha;exact k _ _ _ (st.step he hs hd hv)) (h a w S st.sat st.own st.facts)
def br(h:AT E aC .normal O G):RG E ops aC [] O G:=fun a w S st=>h a w S st
def aL{id:Nat}{l:List Oper}(h:RG E l.toArray aC l O G):CG E aC (.region id l.toArray false) O G:=fun a w S st=>wpIn_region_lit (h a w S st)
def aA{x:Code}(h:CG E (Exit.then (y.wpIn (fw E.r) 0 E.P aC) aC) x O G):CG E aC (.seq x y) O G:=fun a w S st=>wpIn_seq (h a w S st)
def aq(h:CG E aC y O G):AT E (Exit.then (y.wpIn (fw E.r) 0 E.P aC) aC) .normal O G:=h
def bl(h:AT E aC .normal O G):CG E aC .skip O G:=fun a w S st=>wpIn_skip (h a w S st)
def ep{id:Nat}(h:AT E aC (.exit id) O G):CG E aC (.exit id) O G:=fun a w S st=>wpIn_exit (h a w S st)
def yJ(h:AT E aC .ret O G):CG E aC .ret O G:=fun a w S st=>wpIn_ret (h a w S st)
def cj{e:Exit}(h:AT E aC e O G')(k:Q3 G' G):AT E aC e O G:=fun a w S st=>h a w S (st.sub k)
def FN{c:Operand}{x:Code}(A:bk E.N G c (Z rB b))(D:b=true->CG E aC x O G)(hy:b=false->CG E aC y O G):CG E aC (.cond c x y) O G:=fun a w S st=>by
 have hv:a.eval c= .bool b:=kP.1 (A S a st.facts)
 refine wpIn_cond hv ?_
 cases b with
 |true=>exact D rfl a w S st
 |false=>exact hy rfl a w S st
def ai{id:Nat}(h:CG E (Exit.inBlock id aC) c O G):CG E aC (.block id c) O G:=fun a w S st=>wpIn_block (h a w S st)
def zK(r:Option Nat)(P:Program)(c:Code)(aC:Exit->Act->World->Prop)(a:Act)(w:World):Prop:=
 ∀(b:Frame) (k:List Item) (cs:List Frame),b.roundOf=r-> ∃e a' w',aC e a' w' /\ArrivesIn (Machine.fenced P (fw r)) P (lone (b.atR a (.code c:: .inLoop c::k)) cs w) b k cs e a' w'
def PR{r:Option Nat}{n:Nat}:(fw r).room n:=fun _ hd=>by cases hd
def JH{r:Option Nat}{P:Program}{aC:Exit->Act->World->Prop}(h:zK r P c aC a w):(Code.loop c).wpIn (fw r) 0 P aC a w:=fun b k cs hro A hr=>
 let⟨e,a',w',hq,harr⟩:=h b k cs hro
 ⟨e,a',w',hq,.of_steps (.one (fenced_calm A hr rfl) stepR_loop) harr⟩
def If{r:Option Nat}{P:Program}{aC:Exit->Act->World->Prop}(h:c.wpIn (fw r) 0 P (Exit.then (zK r P c aC) aC) a w):zK r P c aC a w:=by
 intro b k cs hro
 obtain⟨e,a₁,w₁,hq,harr⟩:=h b (.inLoop c::k) cs hro trivial PR
 cases e with
 |normal=>
  obtain⟨e₂,a₂,w₂,hq₂,harr₂⟩:=hq b k cs hro
  exact⟨e₂,a₂,w₂,hq₂,.of_steps (StepsIn.trans harr (.one (fenced_calm (n:=0) (F:=fw r) trivial PR rfl) stepR_inLoop)) harr₂⟩
 |exit id=>exact⟨_,a₁,w₁,hq,.pass (x:= .inLoop c) rfl (fun _ _=> .inl (by simp)) harr⟩
 |goto l=>exact⟨_,a₁,w₁,hq,.pass (x:= .inLoop c) rfl (fun _ _=> .inl (by simp)) harr⟩
 |ret=>exact⟨_,a₁,w₁,hq,.pass (x:= .inLoop c) rfl (fun _ _=> .inl (by simp)) harr⟩
 |panic ch=>exact⟨_,a₁,w₁,hq,.pass (x:= .inLoop c) rfl (fun _ _=> .inl (by simp)) harr⟩
 |outgrown=>exact⟨_,a₁,w₁,hq,.pass (x:= .inLoop c) rfl (fun _ _=> .inl (by simp)) harr⟩
def LG(E:En)(aC:Exit->Act->World->Prop)(c:Code)(O:List OE)(G:mM):Prop:= ∀a w S,St E O G a w S->zK E.r E.P c aC a w
def bp(h:LG E aC c O G):CG E aC (.loop c) O G:=fun a w S st=>JH (h a w S st)
def dw(h:CG E (Exit.then (zK E.r E.P c aC) aC) c O G):LG E aC c O G:=fun a w S st=>If (h a w S st)
def ay(h:LG E aC c O G')(k:Q3 G' G):LG E aC c O G:=fun a w S st=>h a w S (st.sub k)
def aO(h:LG E aC c O G):AT E (Exit.then (zK E.r E.P c aC) aC) .normal O G:=h
def aE{id:Nat}(h:AT E aC (.exit id) O G):AT E (Exit.then aw aC) (.exit id) O G:=h
def af(h:AT E aC .ret O G):AT E (Exit.then aw aC) .ret O G:=h
def xO{id:Nat}(h:AT E aC .ret O G):AT E (Exit.inBlock id aC) .ret O G:=h
def bn{id:Nat}(h:AT E aC .normal O G):AT E (Exit.inBlock id aC) .normal O G:=h
def cK{id:Nat}(h:AT E aC .normal O G):AT E (Exit.inBlock id aC) (.exit id) O G:=fun a w S st=>by
 simp only [Exit.inBlock,jb];exact h a w S st
def cY{id id' :Nat}(hne:Nat.beq id' id=false)(h:AT E aC (.exit id') O G):AT E (Exit.inBlock id aC) (.exit id') O G:=fun a w S st=>by
 have:id' ≠id:=fun e=>by subst e;simp at hne
 simp only [Exit.inBlock,this,jh];exact h a w S st

def AZ(S:SH):List Ty->List Value->Prop
 |[],[]=>True
 |t::ts,v::vs=>t.p S v/\AZ S ts vs
 |_,_=>False
def AZ.mono(h:su S S'): ∀{ts:List Ty} {vs:List Value},AZ S ts vs->AZ S' ts vs
 |[],[],_=>trivial
 |t::_,_::_,⟨H,J⟩=>⟨t.mono h H,AZ.mono h J⟩
def AZ.length: ∀{ts:List Ty} {vs:List Value},AZ S ts vs->vs.length=ts.length
 |[],[],_=>rfl
 |_::_,_::_,⟨_,J⟩=>by simp [AZ.length J]
def cN(P:Program)(f:FuncId)(ts:List Ty)(t:Ty):Prop:=
 ∀w S vs,mU w S->AZ S ts vs->Calls P f vs.toArray w fun e w' => ∃v S',e= .returned v/\lq wC w S w' S' /\mU w' S' /\t.p S' v
def Oo(E:En)(t:Ty):Ending->World->Prop:=fun e w' => ∃v S',e= .returned v/\lq E.B E.w0 E.S0 w' S' /\mU w' S' /\t.p S' v
def Bk(k:Nat):List Ty->mM
 |[]=>[]
 |t::ts=>(k,t)::Bk (k+1) ts
def GU: ∀(ts:List Ty) (k j:Nat) (t:Ty),look (Bk k ts) j=some t-> ∃i,j=k+i/\ts[i]? =some t
 |[],_,_,_,h=>by simp [Bk,look]at h
 |u::ts,k,j,t,h=>by
  unfold Bk look at h
  by_cases A:Nat.beq k j=true
  ·rw [A]at h
   exact⟨0,by rw [qZ A];rfl,by simpa using h⟩
  ·rw [DB]at A
   rw [A]at h
   obtain⟨i,H,J⟩:=GU ts (k+1) j t h
   exact⟨i+1,by omega,by simpa using J⟩
def AZ.at_: ∀{ts:List Ty} {vs:List Value} (_:AZ S ts vs) (i:Nat) (t:Ty),ts[i]? =some t-> ∃v,vs[i]? =some v/\t.p S v
 |_::_,v::_,⟨H,_⟩,0,t,h=>⟨v,rfl,by simp at h;rw [<-h];exact H⟩
 |_::ts,_::vs,⟨_,J⟩,i+1,t,h=>by simpa using AZ.at_ J i t (by simpa using h)
def B0{vs:List Value}(h:AZ S ts vs)(n:Nat)(hn:ts.length<=n):
  dm ⟨n,[]⟩ S {tmps:=vs.toArray++Array.replicate (n-vs.toArray.size) undef,defers:=[]} (Bk 0 ts):=by
 have hl:=h.length
 refine⟨by simp;omega,rfl,fun j t hj=>?_⟩
 obtain⟨i,e,hi⟩:=GU ts 0 j t hj
 have e' :j=i:=by omega
 subst e'
 obtain⟨v,hv,M⟩:=h.at_ j t hi
 have hlt:j<vs.length:=(kN.1 hv).1
 have:(vs.toArray++Array.replicate (n-vs.toArray.size) undef).getD j undef=v:=by
  rw [KO,Array.getElem?_append_left (by simpa using hlt)]
  simp [hv]
 rw [this];exact M
def KH{P:Program}(hf:P.funcs[f]? =some fn)(A:fn.body=some c)(hn:ts.length<=fn.ntmps)(h: ∀w0 S0,CG ⟨P,⟨fn.ntmps,[]⟩,wC,w0,S0,none⟩ (bodyPost P fn (Oo ⟨P,⟨fn.ntmps,[]⟩,wC,w0,S0,none⟩ t)) c [] (Bk 0 ts)):cN P f ts t:=by
 intro w S vs hs hv
 exact yB.1 (callsIn_of_wp (F:=fw none) (n:=0) hf A trivial (h w S _ w S ⟨lq.refl _ _ _,hs,trivial,B0 hv _ hn⟩))
def uz(P:Program)(fn:Func)(k:Nat)(h:fn.results= #[.tmp k])(tmps:Array Value)(w:World):(results fn tmps).run P w= .ok (tmps.getD k undef) w:=by
 simp [results,h]
def au{P:Program}{N:Nat}{B:Nat->Prop}{w0:World}{S0:SH}(hr:fn.results= #[.tmp k])(hk:look G k=some t):
  AT ⟨P,⟨N,[]⟩,B,w0,S0,none⟩ (bodyPost P fn (Oo ⟨P,⟨N,[]⟩,B,w0,S0,none⟩ t)) .ret O G:=fun _ _ S st=>
 ⟨st.facts.defers,_,uz P fn k hr _ _,_,S,rfl,st.ext,st.sat,st.facts.at_ k t hk⟩
def tT(ts:List Ty):Ty where
 p:=fun S v=> ∃vs,v= .tuple vs.toArray/\AZ S ts vs
 mono:=fun h k=>by obtain⟨vs,e,k⟩:=k;exact⟨vs,e,AZ.mono h k⟩
def E9(P:Program)(fn:Func)(j k:Nat)(h:fn.results= #[.tmp j,.tmp k])(tmps:Array Value)(w:World):(results fn tmps).run P w= .ok (.tuple #[tmps.getD j undef,tmps.getD k undef]) w:=by
 simp [results,h]
def c0{P:Program}{N:Nat}{B:Nat->Prop}{w0:World}{S0:SH}{u:Ty}(hr:fn.results= #[.tmp j,.tmp k])(hj:look G j=some t)(hk:look G k=some u):
  AT ⟨P,⟨N,[]⟩,B,w0,S0,none⟩ (bodyPost P fn (Oo ⟨P,⟨N,[]⟩,B,w0,S0,none⟩ (tT [t,u]))) .ret O G:=fun _ _ S st=>
 ⟨st.facts.defers,_,E9 P fn j k hr _ _,_,S,rfl,st.ext,st.sat,[_,_],rfl,st.facts.at_ j t hj,st.facts.at_ k u hk,trivial⟩
end

variable{dst:Option Tmp}
section
variable{E:En}{ty:TypeId}
def cH.of_run(h: ∀a w S,mU w S->dA E.base E.B w S O->dm E.N S a G->
  ∃v w' S',(execOp a.eval o).run E.P w= .ok (.value v) w' /\lq wC w S w' S' /\mU w' S' /\t.p S' v)(hd: ∀c,o.op≠ .defer c:=by intro c h;cases h):cH E O G o t:=fun a w S hs ho hf=>by
 obtain⟨v,w',S',hr,he,hs',hv⟩:=h a w S hs ho hf
 refine⟨hd,?_⟩
 rw [hr]
 exact⟨v,S',rfl,he,hs',hv⟩
def cH.of_pure(h: ∀a w S,mU w S->dA E.base E.B w S O->dm E.N S a G-> ∃v,(execOp a.eval o).run E.P w= .ok (.value v) w/\t.p S v)(hd: ∀c,o.op≠ .defer c:=by intro c h;cases h):cH E O G o t:=
 .of_run (fun a w S hs ho hf=>let⟨v,hr,hv⟩:=h a w S hs ho hf;⟨v,w,S,hr,lq.refl _ _ _,hs,hv⟩) hd

def bB(D:bk E.N G x t):cH E O G ⟨dst,.move x,ty,pos,after,g⟩ t:=
 .of_pure fun a _ S _ _ hf=>⟨a.eval x,rfl,D S a hf⟩
def cg(D:bk E.N G x t):cH E O G ⟨dst,.assign x,ty,pos,after,g⟩ t:=
 .of_pure fun a _ S _ _ hf=>⟨a.eval x,rfl,D S a hf⟩
def Fw{c y:Operand}(hc:bk E.N G c (Z rB b))(D:b=true->bk E.N G x t)(hy:b=false->bk E.N G y t):cH E O G ⟨dst,.pick c x y,ty,pos,after,g⟩ t:=
 .of_pure fun a _ S _ _ hf=>by
  have H:a.eval c= .bool b:=kP.1 (hc S a hf)
  refine⟨if b then a.eval x else a.eval y,by simp [execOp,H,asBool],?_⟩
  cases b with
  |true=>exact D rfl S a hf
  |false=>exact hy rfl S a hf

section
variable{xt yt:TypeId}{y:Operand}{k:IntKind}{m n:Int}
def Mm{P:Program}{op:BinOp}{xt:TypeId}{x y:Operand}{k k' :IntKind}{m n:Int}:(eqGuard op xt x y (.int k m) (.int k' n)).run P w= .ok () w:=by
 unfold eqGuard
 cases op<;>rfl
def yd{op:BinOp}(D:bk E.N G x (Z (rI k) m))(hy:bk E.N G y (Z (rI k) n))(hv: ∀P w,(binOp op xt (.int k m) (.int k n)).run P w= .ok v w)(M: ∀S,t.p S v):
  cH E O G ⟨dst,.binOp op xt x y yt,ty,pos,after,g⟩ t:=
 .of_pure fun a w S _ _ hf=>by
  have H:a.eval x= .int k m:=f8.1 (D S a hf)
  have J:a.eval y= .int k n:=f8.1 (hy S a hf)
  refine⟨v,?_,M S⟩
  simp [execOp,H,J,Mm,hv]
def fq(D:bk E.N G x (Z (rI k) m))(hy:bk E.N G y (Z (rI k) n)):cH E O G ⟨dst,.binOp .add xt x y yt,ty,pos,after,g⟩ (Z (rI k) (k.wrap (m+n))):=
 yd D hy (fun _ _=>by simp [binOp,Op.intArith]) (fun _=>f8.2 rfl)
def fm(D:bk E.N G x (Z (rI k) m))(hy:bk E.N G y (Z (rI k) n)):cH E O G ⟨dst,.binOp .sub xt x y yt,ty,pos,after,g⟩ (Z (rI k) (k.wrap (m-n))):=
 yd D hy (fun _ _=>by simp [binOp,Op.intArith]) (fun _=>f8.2 rfl)
def JY(D:bk E.N G x (Z (rI k) m))(hy:bk E.N G y (Z (rI k) n)):cH E O G ⟨dst,.binOp .mul xt x y yt,ty,pos,after,g⟩ (Z (rI k) (k.wrap (m*n))):=
 yd D hy (fun _ _=>by simp [binOp,Op.intArith]) (fun _=>f8.2 rfl)
def eN(D:bk E.N G x (Z (rI k) m))(hy:bk E.N G y (Z (rI k) n)):cH E O G ⟨dst,.binOp .lss xt x y yt,ty,pos,after,g⟩ (Z rB (decide (m<n))):=
 yd D hy (fun _ _=>by simp [binOp,Op.intCmp]) (fun _=>kP.2 rfl)
def kr(D:bk E.N G x (Z (rI k) m))(hy:bk E.N G y (Z (rI k) n)):cH E O G ⟨dst,.binOp .leq xt x y yt,ty,pos,after,g⟩ (Z rB (decide (m<=n))):=
 yd D hy (fun _ _=>by simp [binOp,Op.intCmp]) (fun _=>kP.2 rfl)
def eX(D:bk E.N G x (Z (rI k) m))(hy:bk E.N G y (Z (rI k) n)):cH E O G ⟨dst,.binOp .gtr xt x y yt,ty,pos,after,g⟩ (Z rB (decide (n<m))):=
 yd D hy (fun _ _=>by simp [binOp,Op.intCmp]) (fun _=>kP.2 rfl)
def ff(D:bk E.N G x (Z (rI k) m))(hy:bk E.N G y (Z (rI k) n)):cH E O G ⟨dst,.binOp .geq xt x y yt,ty,pos,after,g⟩ (Z rB (decide (n<=m))):=
 yd D hy (fun _ _=>by simp [binOp,Op.intCmp]) (fun _=>kP.2 rfl)
def m6(D:bk E.N G x (Z (rI k) m))(hy:bk E.N G y (Z (rI k) n)):cH E O G ⟨dst,.binOp .eql xt x y yt,ty,pos,after,g⟩ (Z rB (m==n)):=
 yd D hy (fun _ _=>by simp [binOp,Op.intCmp]) (fun _=>kP.2 rfl)
def du(D:bk E.N G x (Z (rI k) m))(hy:bk E.N G y (Z (rI k) n)):cH E O G ⟨dst,.binOp .neq xt x y yt,ty,pos,after,g⟩ (Z rB (m !=n)):=
 yd D hy (fun _ _=>by simp [binOp,Op.intCmp]) (fun _=>kP.2 rfl)
def fD(D:bk E.N G x (Z rB b)):cH E O G ⟨dst,.unOp .not xt x,ty,pos,after,g⟩ (Z rB (!b)):=
 .of_pure fun a w S _ _ hf=>by
  have H:a.eval x= .bool b:=kP.1 (D S a hf)
  exact⟨.bool (!b),by simp [execOp,H,Op.unary],kP.2 rfl⟩
def U8{st dt:TypeId}{k' :IntKind}{ah:TypeDesc}(hs:E.P.underlying st=some ah)(hd:E.P.underlying dt=some (.int k'))(D:bk E.N G x (Z (rI k) m)):
  cH E O G ⟨dst,.convert st dt x,ty,pos,after,g⟩ (Z (rI k') (k'.wrap m)):=
 .of_pure fun a w S _ _ hf=>by
  have H:a.eval x= .int k m:=f8.1 (D S a hf)
  refine⟨.int k' (k'.wrap m),?_,f8.2 rfl⟩
  simp only [execOp,H,convert,sA,jZ hs,jZ hd,tJ]
  cases ah<;>simp [Conv.intToInt]
end

def DY{P:Program}{t:TypeId}(M:P.underlying t=some .bool)(ah:Nat)(b c:Bool)(w:World):(Op.equalIn (ah+1) t (.bool b) (.bool c)).run P w= .ok (b==c) w:=by
 simp [Op.equalIn,jZ M]
def JT{P:Program}{t:TypeId}{x y:Value}(A: ∀ah,(Op.equalIn (ah+1) t x y).run P w= .ok b w):(Op.equal t x y).run P w= .ok b w:=A 9999
section
variable{xt yt:TypeId}{y:Operand}
def wA{c:Bool}(M:E.P.underlying xt=some .bool)(D:bk E.N G x (Z rB b))(hy:bk E.N G y (Z rB c)):cH E O G ⟨dst,.binOp .neq xt x y yt,ty,pos,after,g⟩ (Z rB (b !=c)):=
 .of_pure fun a w S _ _ hf=>by
  have H:a.eval x= .bool b:=kP.1 (D S a hf)
  have J:a.eval y= .bool c:=kP.1 (hy S a hf)
  exact⟨.bool (b !=c),by simp [execOp,H,J,eqGuard,binOp,JT (fun ah=>DY M ah b c w)];cases b<;>cases c<;>rfl,kP.2 rfl⟩
def SY{op:BinOp}{s u:cX}(D:bk E.N G x (Z rS s))(hy:bk E.N G y (Z rS u))(hv: ∀P w,(Op.stringOp op ⟨s.toArray⟩ ⟨u.toArray⟩).run P w= .ok (.bool b) w)(V: ∀P w,(eqGuard op xt x y (.string ⟨s.toArray⟩) (.string ⟨u.toArray⟩)).run P w= .ok () w)(A: ∀P w,(binOp op xt (.string ⟨s.toArray⟩) (.string ⟨u.toArray⟩)).run P w=(Op.stringOp op ⟨s.toArray⟩ ⟨u.toArray⟩).run P w):
  cH E O G ⟨dst,.binOp op xt x y yt,ty,pos,after,g⟩ (Z rB b):=
 .of_pure fun a w S _ _ hf=>by
  have H:a.eval x= .string ⟨s.toArray⟩:=uu.1 (D S a hf)
  have J:a.eval y= .string ⟨u.toArray⟩:=uu.1 (hy S a hf)
  refine⟨.bool b,?_,kP.2 rfl⟩
  simp [execOp,H,J,V,A,hv]
def fW{s u:cX}(D:bk E.N G x (Z rS s))(hy:bk E.N G y (Z rS u)):cH E O G ⟨dst,.binOp .eql xt x y yt,ty,pos,after,g⟩ (Z rB (s==u)):=
 SY D hy (fun _ _=>by simp [Op.stringOp]) (fun _ _=>rfl) (fun _ _=>rfl)
def va{s u:cX}(D:bk E.N G x (Z rS s))(hy:bk E.N G y (Z rS u)):cH E O G ⟨dst,.binOp .neq xt x y yt,ty,pos,after,g⟩ (Z rB (!(s==u))):=
 SY D hy (fun _ _=>by simp [Op.stringOp]) (fun _ _=>rfl) (fun _ _=>rfl)
end
end

def Tf:TypeDesc->Bool
 | .struct _| .array _ _=>true
 |_=>false
structure TI(P:Program)(T:TypeId)(sz bytes:Nat)(agg:Bool)(z:List Value):Prop where
 info:(P.info? T).map (fun i=>(i.zero.map (·.cells.toList),i.size,i.bytes))=some (some z,sz,bytes)
 ag:(P.underlying T).map Tf=some agg
variable{T:TypeId}{z:List Value}
section
variable{P:Program}{sz:Nat}{agg:Bool}
def TI.get(h:TI P T sz bytes agg z): ∃i zv,P.info? T=some i/\i.size=sz/\i.bytes=bytes/\i.zero=some zv/\zv.cells=z.toArray:=by
 have:=h.info
 cases hi:P.info? T with
 |none=>rw [hi]at this;simp at this
 |some i=>
  rw [hi]at this
  simp only [Is,A6,Prod.mk.injEq,O5]at this
  obtain⟨⟨zv,H,J⟩,h3,h4⟩:=this
  exact⟨i,zv,rfl,h3,h4,H,by rw [<-J]⟩
def TI.sizeOf(h:TI P T sz bytes agg z)(w:World):(Go.sizeOf T).run P w= .ok sz w:=by
 obtain⟨i,zv,H,J,_⟩:=h.get
 simp [Go.sizeOf,typeInfo,H,J]
def TI.isAgg(h:TI P T sz bytes agg z)(w:World):(Go.isAgg T).run P w= .ok agg w:=by
 have:=h.ag
 cases hi:P.underlying T with
 |none=>rw [hi]at this;simp at this
 |some ah=>
  rw [hi]at this
  simp only [Is,A6]at this
  simp only [Go.isAgg,sA,jZ hi,tJ]
  rw [<-this]
  cases ah<;>simp [Tf]
def TI.zero(h:TI P T sz bytes agg z)(w:World): ∃zv,(zeroValue T).run P w= .ok zv w/\zv.cells=z.toArray:=by
 obtain⟨i,zv,H,_,_,h4,h5⟩:=h.get
 exact⟨zv,by simp [zeroValue,typeInfo,H,h4],h5⟩
end

def jA(b off i:Nat):(⟨b,off,none⟩:Addr).add i=⟨b,off+i,none⟩:=by
 unfold Addr.add
 split
 ·simp_all
 ·rfl
def AG{b:Nat}{c:Array Value}(h:w.heap[b]? =some (.cells c T fr))(i:Nat):w.cell? ⟨b,i,none⟩=c[i]? :=by
 simp [World.cell?,h]
def xv{P:Program}{b n:Nat}{c:Array Value}(h:w.heap[b]? =some (.cells c T fr))(hcs:(c.toList.drop off).take n=cs)(hl:cs.length=n):
  (loadCells ⟨b,off,none⟩ n).run P w= .ok cs.toArray w:=by
 rw [<-hl]
 refine run_loadCells_list w ⟨b,off,none⟩ cs fun j v hv=>?_
 rw [jA,AG h]
 have hj:j<cs.length:=(kN.1 hv).1
 rw [<-hcs,DC (by omega),y0]at hv
 simpa using hv
def lR{P:Program}{b:Nat}{c:Array Value}{U:TypeId}{sz:Nat}{agg:Bool}(ti:TI P U sz bytes agg z)(h:w.heap[b]? =some (.cells c T fr)){r:Rp α}(hsz:r.sz=sz)(hag:r.agg=agg){x:α}(D:r.rc S ((c.toList.drop off).take r.sz) x):
  (loadVar U ⟨b,off,none⟩).run P w= .ok (r.val ((c.toList.drop off).take r.sz)) w:=by
 have hl:=r.len D
 subst hsz
 subst hag
 simp only [loadVar,sA,ti.isAgg,tJ]
 cases ha:r.agg with
 |true=>simp [ti.sizeOf,xv h rfl hl,Rp.val,ha]
 |false=>
  have H:=r.sc ha
  have hcell:w.cell? ⟨b,off,none⟩=some (((c.toList.drop off).take r.sz).headD undef):=by
   rw [AG h]
   rw [H]at hl ⊢
   cases hd:c.toList.drop off with
   |nil=>rw [hd]at hl;simp at hl
   |cons v rest=>
    have:(c.toList.drop off)[0]? =some v:=by rw [hd];rfl
    rw [y0]at this
    simpa using this
  simp [hcell,Rp.val,ha]

variable{ats:Array TypeId}
section
variable{E:En}{ty:TypeId}
def eS{r:Rp α}{x:α}{U:TypeId}{p:Operand}{sz:Nat}{agg:Bool}(ti:TI E.P U sz bytes agg z)(hsz:r.sz=sz)(hag:r.agg=agg)(hp:bk E.N G p (bo r x)):
  cH E O G ⟨dst,.load U p,ty,pos,after,g⟩ (Z r x):=
 .of_pure fun a w S hs _ hf=>by
  obtain⟨b,off,c,T,fr,H,J,h3⟩:=hp S a hf
  obtain⟨c',h4,h5⟩:=hs.part J (r.len h3)
  rw [<-h5]at h3
  refine⟨r.val ((c'.toList.drop off).take r.sz),?_,_,rfl,h3⟩
  simp [execOp,H,Instr.loadAt,Instr.sureAddr,lR ti h4 hsz hag h3]

def Qz(s:cX):(ByteArray.mk s.toArray).size=s.length:=by simp [ByteArray.size]
def fO{r:Rp α}{t:TypeId}(M:E.P.underlying t=some (.slice e))(D:bk E.N G x (Z (eM r) xs)):
  cH E O G ⟨dst,.call ⟨.builtin .len,#[x],#[t]⟩,ty,pos,after,g⟩ (Z (rI .i64) (xs.length:Int)):=
 .of_pure fun a w S _ _ hf=>by
  obtain⟨ad,cap,H,_⟩:=m4.1 (D S a hf)
  refine⟨.int .i64 xs.length,?_,f8.2 rfl⟩
  simp [execOp,resolve,invoke,builtin,Builtin.len_,jZ M,H,goInt]
def nT{s:cX}{t:TypeId}(M:E.P.underlying t=some .string)(D:bk E.N G x (Z rS s)):
  cH E O G ⟨dst,.call ⟨.builtin .len,#[x],#[t]⟩,ty,pos,after,g⟩ (Z (rI .i64) (s.length:Int)):=
 .of_pure fun a w S _ _ hf=>by
  have H:a.eval x= .string ⟨s.toArray⟩:=uu.1 (D S a hf)
  refine⟨.int .i64 s.length,?_,f8.2 rfl⟩
  simp [execOp,resolve,invoke,builtin,Builtin.len_,jZ M,H,goInt,Qz]

def fz{α:Type}(xs:List α)(i:Int):Option α:=if 0<=i then xs[i.toNat]? else none
def jt(xs:List α)(i:Nat):fz xs (i:Int)=xs[i]? :=by simp [fz]
def Q5{r:Rp α}{a:Option Addr}(h:IK r S a xs){x:α}(D:xs[i]? =some x):
  ∃b off c T fr,a=some ⟨b,off,none⟩/\S b=some (.cells c T fr)/\r.rc S ((c.toList.drop (off+i*r.sz)).take r.sz) x:=by
 rcases h with rfl|⟨b,off,c,T,fr,e1,e2,e3⟩
 ·simp at D
 ·refine⟨b,off,c,T,fr,e1,e2,?_⟩
  have h:=CS e3 D
  have hi:i<xs.length:=(kN.1 D).1
  rw [Cs,yL,xR]at h
  have:min r.sz (xs.length*r.sz-i*r.sz)=r.sz:=by
   rw [<-Nat.sub_mul]
   have:1*r.sz<=(xs.length-i)*r.sz:=By _ (by omega)
   omega
  rw [this]at h
  exact h
def d6{r:Rp α}{y:α}{ix:Operand}{t:TypeId}{k:IntKind}{i:Int}{sz:Nat}{agg:Bool}(M:E.P.underlying t=some (.slice e))(ti:TI E.P e sz bytes agg z)(hsz:r.sz=sz)(D:bk E.N G x (Z (eM r) xs))(hi:bk E.N G ix (Z (rI k) i))(hy:fz xs i=some y):
  cH E O G ⟨dst,.indexAddr t x ix,ty,pos,after,g⟩ (bo r y):=
 .of_pure fun a w S _ _ hf=>by
  obtain⟨ad,cap,H,_,_,J⟩:=m4.1 (D S a hf)
  have h3:a.eval ix= .int k i:=f8.1 (hi S a hf)
  have h0:0<=i:=by unfold fz at hy;split at hy;assumption;cases hy
  have hy' :xs[i.toNat]? =some y:=by unfold fz at hy;rw [cx h0]at hy;exact hy
  have hlt:i.toNat<xs.length:=(kN.1 hy').1
  obtain⟨b,off,c,T,fr,e1,e2,e3⟩:=Q5 J hy'
  subst e1
  refine⟨.pointer (some ⟨b,off+i.toNat*r.sz,none⟩),?_,b,_,c,T,fr,rfl,e2,e3⟩
  have hc:0<=i/\i<(xs.length:Int):=⟨h0,by omega⟩
  simp [execOp,H,h3,Instr.indexAt,asIntOf,jZ M,hc,ti.sizeOf,jA,hsz]

def jj{α β:Type}(r:Rp α)(off:Nat)(q:Rp β)(get:α->β):Prop:= ∀S cs x,r.rc S cs x->q.rc S ((cs.drop off).take q.sz) (get x)
def bO(P:Program)(T:TypeId)(i:Nat):Option (Nat×Nat):=
 match P.underlying T with
 |some (.struct fs)=>(fs[i]?).bind fun f=>(P.info? f.type).map fun q=>(f.offset,q.size)
 |_=>none
def DX{P:Program}{sz:Nat}(h:bO P T i=some (off,sz)): ∃fs f,P.underlying T=some (.struct fs)/\fs[i]? =some f/\f.offset=off/\ ∀w,(sizeOf f.type).run P w= .ok sz w:=by
 unfold bO at h
 split at h
 ·rename_i fs hu
  cases hf:fs[i]? with
  |none=>rw [hf]at h;simp at h
  |some f=>
   rw [hf]at h
   cases hq:P.info? f.type with
   |none=>simp [hq]at h
   |some q=>
    simp [hq]at h
    exact⟨fs,f,hu,hf,h.1,fun w=>by simp [sizeOf,typeInfo,hq,h.2]⟩
 ·cases h
def gz{r:Rp α}{q:Rp β}{get:α->β}{x:α}{sz:Nat}{p:Operand}(hf:bO E.P T i=some (off,sz))(h0:Nat.beq sz 0=false)(hq:jj r off q get)(hoff:Nat.ble (off+q.sz) r.sz=true)(hp:bk E.N G p (bo r x)):cH E O G ⟨dst,.fieldAddr T p i,ty,pos,after,g⟩ (bo q (get x)):=
 .of_pure fun a w S _ _ hF=>by
  obtain⟨b,o,c,U,fr,H,J,h3⟩:=hp S a hF
  obtain⟨fs,f,e1,e2,e3,e4⟩:=DX hf
  have h0' :sz≠0:=fun e=>by subst e;simp at h0
  have hoff' :off+q.sz<=r.sz:=uq hoff
  refine⟨.pointer (some ⟨b,o+off,none⟩),?_,b,_,c,U,fr,rfl,J,?_⟩
  ·simp [execOp,H,Instr.fieldAt,jZ e1,e2,Instr.sureAddr,fieldPlace,e4,h0',e3,jA]
  ·have:=hq S _ x h3
   rw [Cs,yL,xR,Co (by omega)]at this
   exact this
def ak(P:Program)(f:FuncId):Bool:=
 match P.funcs[f]? with
 |some fn=> !(fn.name== "runtime.NumGoroutine")&&fn.body.isSome
 |none=>false
def kf{P:Program}(h:ak P f=true)(args:Array Value)(w:World):(callFunc f args).run P w= .ok (.enter f args) w:=by
 unfold ak at h
 cases hf:P.funcs[f]? with
 |none=>rw [hf]at h;cases h
 |some fn=>
  rw [hf]at h
  simp only [jM,zh]at h
  have H:fn.name≠ "runtime.NumGoroutine" :=by simpa using h.1
  have J:fn.body≠none:=fun e=>by rw [e]at h;simp at h
  simp [callFunc,hf,H,J]
def kD(N:Fr)(G:mM):List Operand->List Ty->Prop
 |[],[]=>True
 |x::xs,t::ts=>bk N G x t/\kD N G xs ts
 |_,_=>False
def kD.tys{N:Fr}(hF:dm N S a G): ∀{xs:List Operand} {ts:List Ty},kD N G xs ts->AZ S ts (xs.map a.eval)
 |[],[],_=>trivial
 |_::_,_::_,⟨H,J⟩=>⟨H S a hF,kD.tys hF J⟩
def bq{xs:List Operand}(hc:ak E.P f=true)(hs:cN E.P f ts t)(D:kD E.N G xs ts):
  cH E O G ⟨dst,.call ⟨.value (.func f),xs.toArray,ats⟩,ty,pos,after,g⟩ t:=fun a w S hS _ hF=>by
 have hr:(execOp a.eval ⟨dst,.call ⟨.value (.func f),xs.toArray,ats⟩,ty,pos,after,g⟩).run E.P w= .ok (.enter f (xs.map a.eval).toArray) w:=by
  simp [execOp,resolve,Act.eval,Deferred.ofValue,invoke,kf hc]
 refine⟨fun c h=>(by cases h),?_⟩
 rw [hr]
 exact(hs w S _ hS (D.tys hF)).mono fun e w' ⟨v,S',he,H,J,h3⟩=>⟨v,he,v,S',rfl,H,J,h3⟩
end

def oL{o:Obj}(h:k<w.heap.size):(w.alloc o).heap[k]? =w.heap[k]? :=RowKit.Below.heap_alloc w o k h
def SH.set(S:SH)(b:Nat)(o:Obj):SH:=fun k=>if k=b then some o else S k
def pR(S:SH)(b:Nat)(o:Obj):S.set b o b=some o:=cx rfl
def s8(S:SH){b:Nat}(o:Obj)(h:k≠b):S.set b o k=S k:=cm h
def AK{b:Nat}{o:Obj}(h: ∀q,S b=some q->HW q o):su S (S.set b o):=fun k q hq=>by
 by_cases hk:k=b
 ·subst hk;exact⟨o,pR _ _ _,h q hq⟩
 ·exact⟨q,by rw [s8 _ _ hk];exact hq,xx q⟩
def mU.set(h:mU w S){b:Nat}{o:Obj}(H:w.heap[b]? =some o')(J:HW o o')(h3: ∀q,S b=some q->HW q o):mU w (S.set b o):=by
 refine⟨fun k q hq=>?_,fun p hp=>?_,fun w' hw' =>h.tb w' fun k q hq=>?_⟩
 ·by_cases hk:k=b
  ·subst hk
   rw [pR]at hq
   cases hq
   exact⟨o',H,J⟩
  ·rw [s8 _ _ hk]at hq;exact h k q hq
 ·obtain⟨c,T,fr,g1,g2⟩:=h.gl p hp
  by_cases hk:p.1=b
  ·subst hk
   obtain⟨ah,hd⟩:=h3 _ g1
   refine⟨_,T,fr,by rw [pR,hd],?_⟩
   rw [List.toList_toArray,za ?_]
   ·exact g2
   ·have:=congrArg List.length g2
    rw [Bw]at this
    omega
  ·exact⟨c,T,fr,by rw [s8 _ _ hk];exact g1,g2⟩
 ·by_cases hk:k=b
  ·subst hk
   obtain⟨o1,g1,g2⟩:=hw' k o (pR _ _ _)
   exact⟨o1,g1,IY (h3 q hq) g2⟩
  ·exact hw' k q (by rw [s8 _ _ hk];exact hq)
def lF(o:Obj)(hs:mU w S):lq wC w S (w.alloc o) S/\mU (w.alloc o) S/\S w.heap.size=none:=by
 refine⟨⟨rfl,rfl,rfl,f7 _,by simp,fun k hk _=>oL hk,SH.le_refl _,fun _ _ _=>rfl⟩,hs.same fun b q A=>oL (hs.lt A),?_⟩
 cases h:S w.heap.size with
 |none=>rfl
 |some q=>have:=hs.lt h;omega
def wX(o:Obj)(hs:mU w S):lq wC w S (w.alloc o) (S.set w.heap.size o)/\mU (w.alloc o) (S.set w.heap.size o):=by
 obtain⟨H,J,h3⟩:=lF o hs
 refine⟨⟨rfl,rfl,rfl,f7 _,by simp,fun k hk _=>oL hk,AK fun q hq=>(by rw [h3]at hq;cases hq),fun k hk _=>s8 _ _ (by omega)⟩,J.set (A1 w o) (xx o) fun q hq=>by rw [h3]at hq;cases hq⟩
def DA(hs:mU w S):lq wC w S w.drew S/\mU w.drew S:=⟨⟨rfl,rfl,rfl,Nat.le_succ _,f7 _,fun _ _ _=>rfl,SH.le_refl _,fun _ _ _=>rfl⟩,hs.same fun _ _ _=>rfl⟩

def Y(l:Option Nat)(cap n:Nat):Value:=
 match l with
 |none=> .slice none 0 0
 |some b=> .slice (some ⟨b,0,none⟩) n cap
def Bp(w:World)(T:TypeId)(sz:Nat)(l:Option Nat)(cap n:Nat)(cells:List Value):Prop:=
 match l with
 |none=>n=0/\cells=[]
 |some b=> ∃cur,w.heap[b]? =some (.cells cur T (0,0))/\n<=cap/\cap<=maxLen/\cur.size=cap*sz/\cur.toList.take (n*sz)=cells
def AY{α:Type}(m:Bool)(r:Rp α)(T:TypeId)(l:Option Nat)(cap:Nat)(xs:List α)(w:World)(S:SH):Prop:=
 ∃cells,Bp w T r.sz l cap xs.length cells/\ul r S cells xs/\ ∀b,l=some b->S b=if m then some (.cells cells.toArray T (0,0))else none
def Bp.lt{sz b n:Nat}(h:Bp w T sz (some b) cap n cells):b<w.heap.size:=by
 obtain⟨cur,H,_⟩:=h
 exact(BA.1 H).1
def Bp.ext{sz n:Nat}(h:Bp w T sz l cap n cells)(k: ∀b,l=some b->w'.heap[b]? =w.heap[b]?):Bp w' T sz l cap n cells:=by
 cases l with
 |none=>exact h
 |some b=>
  obtain⟨cur,H,J⟩:=h
  exact⟨cur,by rw [k b rfl];exact H,J⟩
def mh{α:Type}(m:Bool)(r:Rp α)(T:TypeId)(l:Option Nat)(cap:Nat)(xs:List α):OE where
 fp:=fun k=>l=some k
 p:=AY m r T l cap xs
 here:=by
  intro w S h k hk
  subst hk
  obtain⟨cells,H,_⟩:=h
  exact H.lt
 kept:=by
  intro C w w' S S' h k hC
  obtain⟨cells,H,J,h3⟩:=h
  refine⟨cells,H.ext fun b A=>?_,tZ k.keep J,fun b A=>?_⟩
  ·subst A;exact k.heap b H.lt (hC b rfl)
  ·subst A;rw [k.old b H.lt (hC b rfl)];exact h3 b rfl
abbrev f6{α:Type}(r:Rp α)(T:TypeId)(l:Option Nat)(cap:Nat)(xs:List α):OE:=mh false r T l cap xs
abbrev K{α:Type}(r:Rp α)(T:TypeId)(l:Option Nat)(cap:Nat)(xs:List α):OE:=mh true r T l cap xs
def oT{α:Type}(xs ys:List α):Option (List α):=if xs.length+ys.length<=68719476736 then some (xs++ys)else none
variable{zs:List α}
def Ul(h:oT xs ys=some zs):zs=xs++ys/\xs.length+ys.length<=68719476736:=by
 unfold oT at h
 split at h
 ·exact⟨by simpa using h.symm,by assumption⟩
 ·cases h
variable{news:List Value}
def AV{P:Program}{t tx ty:TypeId}{i:TypeInfo}(M:P.underlying t=some (.slice e))(hi:P.info? e=some i){g sLen sCap:Nat}{cur:Array Value}(V:w.heap[g]? =some (.cells cur e (0,0))){x:Value}{n:Nat}(hs:Src P i.size tx x n news w)(hroom:sLen+n<=sCap)(hfit:sLen*i.size+news.length<=cur.size):
  (Builtin.append_ #[t,tx] ty #[.slice (some ⟨g,0,none⟩) sLen sCap,x]).run P w=
   .ok (.slice (some ⟨g,0,none⟩) (sLen+n) sCap) (w.setRow g (cur.toList.take (sLen*i.size)++news++cur.toList.drop (sLen*i.size+news.length)).toArray):=by
 have hst:=run_storeCells_at P g (sLen*i.size) e news 0 cur w V (by simpa using hfit) hs.one
 simp only [FT]at hst
 rcases hs.kind with⟨e',hk⟩|hk<;>simp [Builtin.append_,jZ M,jZ hk,sizeOf,typeInfo,hi,hs.len,hroom,hs.cells,Addr.add_lit,hst]
structure XH(l:Option Nat)(w w' :World):Prop where
 os:w'.os=w.os
 tape:w'.tape=w.tape
 output:w'.output=w.output
 drawn:w.drawn<=w'.drawn
 size:w.heap.size<=w'.heap.size
 heap: ∀k,k<w.heap.size->l≠some k->w'.heap[k]? =w.heap[k]?
variable{t' :TypeId}
def Gv{P:Program}{t ty:TypeId}{sz:Nat}{agg:Bool}{n m:Nat}{x:Value}(ti:TI P T sz bytes agg z)(hz:Nat.beq z.length sz=true)(h0:Nat.blt 0 sz=true)(h128:Nat.ble bytes 2048=true)(M:P.underlying t=some (.slice T))(h:Bp w T sz l cap n cells)(hs:Src P sz t' x m news w)(hlen:n+m<=68719476736):
  ∃l' cap' w',(Builtin.append_ #[t,t'] ty #[Y l cap n,x]).run P w= .ok (Y l' cap' (n+m)) w' /\Bp w' T sz l' cap' (n+m) (cells++news)/\XH l w w' /\(∀b,l' =some b->l=some b\/w.heap.size<=b)/\(∀b,l=some b->l' ≠some b->w'.heap[b]? =w.heap[b]?):=by
 obtain⟨i,zv,hi,H,J,h3,h4⟩:=ti.get
 have h128' :=uq h128
 have h0' :0<sz:=by simpa [tM] using h0
 have hz2:z.length=sz:=qZ hz
 subst H
 have hnl:=hs.newsLen
 have hbytes:(n+m)*i.bytes<=140737488355328:=oj (Nat.mul_le_mul hlen (by omega:i.bytes<=2048)) (by omega)
 by_cases hm:m=0
 ·subst hm
  have hn0:news=[]:=y9 (by simpa using hnl)
  subst hn0
  refine⟨l,cap,w,?_,by simpa using h,⟨rfl,rfl,rfl,f7 _,f7 _,fun _ _ _=>rfl⟩,fun b A=> .inl A,fun b _ _=>rfl⟩
  cases l with
  |none=>
   obtain⟨rfl,_⟩:=h
   exact run_append_nothing w t t' ty T i M hi none 0 0 (f7 _) _ hs
  |some b=>
   obtain⟨cur,_,hle,_⟩:=h
   exact run_append_nothing w t t' ty T i M hi (some ⟨b,0,none⟩) n cap hle _ hs
 have Yp: ∀old,old<n+m->Builtin.nextslicecap (n+m) old*i.bytes<=281474976710656:=fun old ho=>growslice_fits ho hbytes
 -- a new row
 have fresh: ∀(base:Option Addr) (olds:List Value),Y l cap n= .slice base n cap->olds=cells->cap<n+m->(Builtin.firstCells i.size n (.slice base n cap)).run P w.drew= .ok olds.toArray w.drew->cells.length=n*i.size->
   ∃l' cap' w',(Builtin.append_ #[t,t'] ty #[Y l cap n,x]).run P w= .ok (Y l' cap' (n+m)) w' /\Bp w' T i.size l' cap' (n+m) (cells++news)/\XH l w w' /\(∀b,l' =some b->l=some b\/w.heap.size<=b)/\(∀b,l=some b->l' ≠some b->w'.heap[b]? =w.heap[b]?):=by
  intro base olds hv he V hf hcl
  subst he
  have hr:=run_append_grow_src (P:=P) w t t' ty T i zv M hi h3 base n cap olds hf x m news hs V (by omega) (Yp cap V)
  have hge:=grownCap_ge w (n+m) cap T
  rw [<-hv]at hr
  refine⟨some w.heap.size,grownCap w (n+m) cap T,_,hr,⟨_,A1 w.drew _,hge,grownCap_le_maxLen _ _ _ _ (by simp only [maxLen];omega),?_,?_⟩,⟨rfl,rfl,rfl,Nat.le_succ _,by simp,fun k hk _=>?_⟩,fun b A=> .inr (EA (rC A)),fun b A _=>?_⟩
  ·have:(Builtin.zeroCells zv.cells (grownCap w (n+m) cap T-(n+m))).size=(grownCap w (n+m) cap T-(n+m))*i.size:=by
    rw [size_zeroCells,h4];simp [hz2]
   simp only [Array.size_append,FW,pg,hcl,hnl,this]
   rw [<-AO,<-AO]
   congr 1;omega
  ·have hl2:(olds++news).length=(n+m)*i.size:=by rw [pg,hcl,hnl,AO]
   rw [Array.toList_append,za (by simp only [List.toList_toArray];omega)]
   simp only [List.toList_toArray]
   exact rF (by omega)
  ·exact oL (w:=w.drew) hk
  ·cases l with
   |none=>cases A
   |some b0=>
    have hb' :b0=b:=rC A
    subst hb'
    exact oL (w:=w.drew) (Bp.lt h)
 cases l with
 |none=>
  obtain⟨rfl,rfl⟩:=h
  have:=run_append_grow_src (P:=P) w t t' ty T i zv M hi h3 none 0 0 [] (run_firstCells_none w.drew i.size 0 0 0) x m news hs (by omega) (by omega) (Yp 0 (by omega))
  have hge:=grownCap_ge w (0+m) 0 T
  refine⟨some w.heap.size,grownCap w (0+m) 0 T,_,this,⟨_,A1 w.drew _,hge,grownCap_le_maxLen _ _ _ _ (by simp only [maxLen];omega),?_,?_⟩,⟨rfl,rfl,rfl,Nat.le_succ _,by simp,fun k hk _=>?_⟩,fun b A=> .inr (EA (rC A)),fun b A=>(by cases A)⟩
  ·have:(Builtin.zeroCells zv.cells (grownCap w (0+m) 0 T-(0+m))).size=(grownCap w (0+m) 0 T-(0+m))*i.size:=by
    rw [size_zeroCells,h4];simp [hz2]
   simp only [Array.size_append,FW,qo,hnl,this]
   rw [<-AO]
   congr 1;omega
  ·rw [Array.toList_append,za (by simp [hnl])]
   simp only [qo,sE]
   exact rF (by omega)
  ·exact oL (w:=w.drew) hk
 |some b=>
  obtain⟨cur,A,hle,hmax,hcs,hct⟩:=h
  have hcl:cells.length=n*i.size:=by
   rw [<-hct,Bw,HX,hcs]
   exact Co (By _ hle)
  by_cases hroom:n+m<=cap
  ·have hfit:n*i.size+news.length<=cur.size:=by rw [hnl,hcs,<-AO];exact By _ hroom
   have hr:=AV (t:=t) (tx:=t') (ty:=ty) M hi A hs hroom hfit
   refine⟨some b,cap,_,hr,⟨_,setRow_heap w b cur _ T _ A,hroom,hmax,?_,?_⟩,⟨rfl,rfl,rfl,f7 _,by simp [World.setRow],fun k hk hkb=>setRow_other w b k _ (fun e=>hkb (by rw [e]))⟩,fun b' hb' => .inl hb',fun b' hb' hne=>absurd hb' hne⟩
   ·simp only [FW,pg,Bw,Ct,HX]
    omega
   ·rw [hct,AO,<-hnl,<-hcl,show cells.length+news.length=(cells++news).length from by simp]
    exact List.take_left
  ·refine fresh (some ⟨b,0,none⟩) cells rfl rfl (by omega) (run_firstCells_some w.drew i.size n ⟨b,0,none⟩ n cap cells hcl fun j v hv=>?_) hcl
   have hj:j<cells.length:=(kN.1 hv).1
   have hcell:w.cell? ⟨b,j,none⟩=cur[j]? :=AG A j
   rw [jA]
   show w.cell? ⟨b,0+j,none⟩=_
   rw [sE,hcell]
   rw [<-hct,DC (by omega)]at hv
   simpa using hv
def zt{P:Program}{r:Rp α}{e' :TypeId}(M:P.underlying t' =some (.slice e'))(hs:mU w S)(hv:(Z (eM r) ys).p S v): ∃news,Src P r.sz t' v ys.length news w/\ul r S news ys:=by
 obtain⟨ad,c2,rfl,hcap,hmax,hsl⟩:=m4.1 hv
 rcases hsl with rfl|⟨b,off,c,U,fr,e1,e2,e3⟩
 ·refine⟨[],?_,rfl⟩
  cases ad with
  |none=>exact .ofNil w M c2
  |some a=>exact .ofSlice w M a 0 c2 [] (by simp) (fun j u hu=>by simp at hu) (fun u hu=>by cases hu)
 ·subst e1
  obtain⟨c',h4,h5⟩:=hs.part e2 (mC e3)
  refine⟨_,.ofSlice w M ⟨b,off,none⟩ ys.length c2 _ (mC e3) (fun j u hu=>?_) (CQ e3),e3⟩
  rw [jA,AG h4]
  rw [<-h5]at hu
  have hj:j<ys.length*r.sz:=by
   have:=(kN.1 hu).1
   simp at this;omega
  rw [DC hj,y0]at hu
  simpa using hu
variable{mm:Bool}
def zC{P:Program}{r:Rp α}{t ty:TypeId}{sz:Nat}{agg:Bool}{base:Nat}{B:Nat->Prop}(ti:TI P T sz bytes agg z)(hsz:r.sz=sz)(hz:Nat.beq z.length sz=true)(h0:Nat.blt 0 sz=true)(h128:Nat.ble bytes 2048=true)(M:P.underlying t=some (.slice T))(hs:mU w S)(h:(mh mm r T l cap xs).holds base B w S)(A:base<=w.heap.size)(hsrc:Src P r.sz t' v ys.length news w)(hrc:ul r S news ys)(hz' :oT xs ys=some zs):
  ∃l' cap' w' S',(Builtin.append_ #[t,t'] ty #[Y l cap xs.length,v]).run P w= .ok (Y l' cap' zs.length) w' /\lq (fun k=>l=some k) w S w' S' /\mU w' S' /\(mh mm r T l' cap' zs).holds base B w' S' /\(∀b,l' =some b->l=some b\/w.heap.size<=b):=by
 subst hsz
 obtain⟨rfl,hlen⟩:=Ul hz'
 obtain⟨⟨cells,H,J,h3⟩,hbase⟩:=h
 obtain⟨l',cap',w',hr,hraw,V,hnew,hold⟩:=Gv (ty:=ty) ti hz h0 h128 M H hsrc hlen
 have hrc' :ul r S (cells++news) (xs++ys):=vO J hrc
 -- what stood settled stands
 have hsat0: ∀k o,S k=some o-> ∃o',w'.heap[k]? =some o' /\HW o o' :=fun k o hk=>by
  have hlt:=hs.lt hk
  by_cases hkl:l=some k
  ·obtain⟨o',e1,e2⟩:=hs k o hk
   by_cases hkl' :l' =some k
   ·subst hkl'
    subst hkl
    have h3' :=h3 k rfl
    cases mm with
    |false=>rw [h3']at hk;cases hk
    |true=>
     rw [h3']at hk
     cases hk
     obtain⟨cur',g1,g2,g3,g4,g5⟩:=hraw
     refine⟨_,g1,?_⟩;refine⟨news++cur'.toList.drop ((xs.length+ys.length)*r.sz),?_⟩
     congr 1
     apply Array.ext'
     rw [<-gF,<-g5,uN]
   ·rw [hold k hkl hkl'];exact hs k o hk
  ·rw [V.heap k hlt hkl];exact hs k o hk
 have hsat:mU w' S:=⟨hsat0,hs.gl,hs.tb⟩
 have hSn: ∀b,l' =some b->l≠some b->S b=none:=fun b hb' hne=>by
  cases hq:S b with
  |none=>rfl
  |some q=>
   have:=hs.lt hq
   rcases hnew b hb' with h|h
   ·exact absurd h hne
   ·omega
 have hbase' : ∀k,l' =some k->base<=k\/B k:=fun k hk=>by
  rcases hnew k hk with h|h
  ·exact hbase k h
  ·exact .inl (by omega)
 have hz2:(xs++ys).length=xs.length+ys.length:=pg
 cases mm with
 |false=>
  refine⟨l',cap',w',S,by rw [hz2];exact hr,⟨V.os,V.tape,V.output,V.drawn,V.size,fun k hk hkb=>V.heap k hk hkb,SH.le_refl _,fun _ _ _=>rfl⟩,hsat,⟨⟨cells++news,by rw [hz2];exact hraw,hrc',fun b hb' =>?_⟩,hbase'⟩,hnew⟩
  by_cases hlb:l=some b
  ·exact h3 b hlb
  ·exact hSn b hb' hlb
 |true=>
  cases l' with
  |none=>
   refine⟨none,cap',w',S,by rw [hz2];exact hr,⟨V.os,V.tape,V.output,V.drawn,V.size,fun k hk hkb=>V.heap k hk hkb,SH.le_refl _,fun _ _ _=>rfl⟩,hsat,⟨⟨cells++news,by rw [hz2];exact hraw,hrc',fun b hb' =>(by cases hb')⟩,hbase'⟩,hnew⟩
  |some g=>
   have hq3: ∀q,S g=some q->HW q (.cells (cells++news).toArray T (0,0)):=fun q hq=>by
    by_cases hlb:l=some g
    ·have h4:S g=some (.cells cells.toArray T (0,0)):=h3 g hlb
     rw [h4]at hq
     cases hq
     exact⟨news,by simp⟩
    ·rw [hSn g rfl hlb]at hq;cases hq
   have hle:su S (S.set g (.cells (cells++news).toArray T (0,0))):=AK hq3
   obtain⟨cur',g1,g2,g3,g4,g5⟩:=hraw
   refine⟨some g,cap',w',S.set g (.cells (cells++news).toArray T (0,0)),by rw [hz2];exact hr,⟨V.os,V.tape,V.output,V.drawn,V.size,fun k hk hkb=>V.heap k hk hkb,hle,fun k hk hkb=>s8 _ _ ?_⟩,hsat.set g1 ?_ hq3,⟨⟨cells++news,by rw [hz2];exact⟨cur',g1,g2,g3,g4,g5⟩,tZ hle hrc',fun b hb' =>?_⟩,hbase'⟩,hnew⟩
   ·rintro rfl
    rcases hnew k rfl with h|h
    ·exact hkb h
    ·omega
   ·refine⟨cur'.toList.drop ((xs.length+ys.length)*r.sz),?_⟩
    congr 1
    apply Array.ext'
    rw [<-g5,uN]
   ·have hb2:g=b:=rC hb'
    subst hb2
    exact pR _ _ _

def OK{e f:OE}(h:e.apart f):f.apart e:=fun b A he=>h b he A
def dA.swap{base:Nat}{B:Nat->Prop}{e f:OE}(h:dA base B w S (e::f::O)):dA base B w S (f::e::O):=by
 obtain⟨H,J,h3,h4,h5⟩:=h
 refine⟨h3,?_,H,?_,h5⟩
 ·intro g V
  rcases gn.1 V with rfl|V
  ·exact OK (J _ (oh ..))
  ·exact h4 g V
 ·intro g V
  exact J g (oO _ V)
def nE{base:Nat}{B:Nat->Prop}{e:OE}{O' :List OE}(h:dA base B w S (e::O))(k:dA base B w S O->dA base B w S O')(hm: ∀f∈O',f∈O):dA base B w S (e::O'):=
 ⟨h.1,fun f hf=>h.2.1 f (hm f hf),k h.2.2⟩
def te{base:Nat}{B:Nat->Prop}{a b c:OE}(h:dA base B w S (a::b::c::O)):dA base B w S (c::a::b::O):=
 (nE h dA.swap (fun f hf=>by simp only [gn]at hf ⊢;rcases hf with h|h|h<;>simp [h])).swap
def wh{base:Nat}{B:Nat->Prop}{a b c ah:OE}(h:dA base B w S (a::b::c::ah::O)):dA base B w S (ah::a::b::c::O):=
 (nE h te (fun f hf=>by simp only [gn]at hf ⊢;rcases hf with h|h|h|h<;>simp [h])).swap
def wg{base:Nat}{B:Nat->Prop}{a b c ah e:OE}(h:dA base B w S (a::b::c::ah::e::O)):dA base B w S (e::a::b::c::ah::O):=
 (nE h wh (fun f hf=>by simp only [gn]at hf ⊢;rcases hf with h|h|h|h|h<;>simp [h])).swap

section
variable{E:En}
def St.own_map{O' :List OE}(h:St E O G a w S)(k:dA E.base E.B w S O->dA E.base E.B w S O'):St E O' G a w S:=⟨h.ext,h.sat,k h.own,h.facts⟩
def St.base_le(h:St E O G a w S):E.base<=w.heap.size:=h.ext.size
def St.drop{e:OE}(h:St E (e::O) G a w S):St E O G a w S:=h.own_map fun h=>h.2.2
def St.fresh(mm:Bool)(r:Rp α)(T:TypeId)(h:St E O G a w S):St E (mh mm r T none 0 []::O) G a w S:=
 h.own_map fun h=>by refine⟨⟨⟨[],⟨rfl,rfl⟩,rfl,fun b A=>(by cases A)⟩,fun k hk=>?_⟩,fun f _ b A=>?_,h⟩<;>(first|cases hk|cases A)
def BL{e:OE}{b:Nat}{o:Obj}(h:St E (e::O) G a w S)(A:e.fp b)(ho:w.heap[b]? =some o')(hoo:HW o o')(hn:S b=none):St E O G a w (S.set b o)/\su S (S.set b o)/\lq (fun k=>k=b) w S w (S.set b o)/\mU w (S.set b o):=by
 have hbase:=h.own.1.2 b A
 have hle:su S (S.set b o):=AK fun q hq=>(by rw [hn]at hq;cases hq)
 have hsat:mU w (S.set b o):=h.sat.set ho hoo fun q hq=>by rw [hn]at hq;cases hq
 have hext:lq (fun k=>k=b) w S w (S.set b o):=⟨rfl,rfl,rfl,f7 _,f7 _,fun _ _ _=>rfl,hle,fun k _ hk=>s8 _ _ hk⟩
 refine⟨⟨h.ext.step hext fun c hc=>by subst hc;exact hbase,hsat,h.own.2.2.ext hext fun f hf c hc hm=>?_,h.facts.mono hle⟩,hle,hext,hsat⟩
 subst hm
 exact h.own.2.1 f hf c A hc
def tO{α:Type}(r:Rp α)(l:Option Nat)(cap:Nat)(xs:List α):Ty where
 p:=fun S v=>v=Y l cap xs.length/\(Z (eM r) xs).p S v
 mono:=fun h ⟨H,J⟩=>⟨H,Ty.mono _ h J⟩
def tR{N:Fr}{G:mM}{r:Rp α}(h:bk N G x (tO r l cap xs)):bk N G x (tV (Y l cap xs.length)):=fun S a hf=>(h S a hf).1
def kp{N:Fr}{G:mM}{r:Rp α}(h:bk N G x (tO r l cap xs)):bk N G x (Z (eM r) xs):=fun S a hf=>(h S a hf).2
def nc{r:Rp α}{w:World}{S:SH}(h:AY true r T l cap xs w S):(Z (eM r) xs).p S (Y l cap xs.length):=by
 obtain⟨cells,H,J,h3⟩:=h
 cases l with
 |none=>
  have D:xs=[]:=y9 H.1
  subst D
  exact Cz
 |some b=>
  obtain⟨cur,g1,g2,g3,g4,g5⟩:=H
  refine m4.2 ⟨_,cap,rfl,g2,g3,.inr ⟨b,0,cells.toArray,T,(0,0),rfl,h3 b rfl,?_⟩⟩
  have:=mC J
  rw [sF,rF (by simp [this])]
  exact J
def St.freeze{r:Rp α}(h:St E (f6 r T l cap xs::O) G a w S):
  ∃S',St E (K r T l cap xs::O) G a w S' :=by
 obtain⟨⟨cells,H,J,h3⟩,hbase⟩:=h.own.1
 cases l with
 |none=>exact⟨S,h.ext,h.sat,⟨⟨⟨cells,H,J,fun b A=>(by cases A)⟩,hbase⟩,h.own.2⟩,h.facts⟩
 |some b=>
  obtain⟨cur,g1,g2,g3,g4,g5⟩:=H
  have hoo:HW (.cells cells.toArray T (0,0)) (.cells cur T (0,0)):=by
   refine⟨cur.toList.drop (xs.length*r.sz),?_⟩
   congr 1
   apply Array.ext'
   rw [<-g5,uN]
  obtain⟨h8,hle,_,_⟩:=BL h rfl g1 hoo (h3 b rfl)
  refine⟨_,h8.ext,h8.sat,⟨⟨⟨cells,⟨cur,g1,g2,g3,g4,g5⟩,tZ hle J,fun b' hb' =>?_⟩,hbase⟩,h.own.2.1,h8.own⟩,h8.facts⟩
  have hb2:b=b' :=rC hb'
  subst hb2
  exact pR _ _ _
def St.settle{r:Rp α}(h:St E (mh mm r T l cap xs::O) G a w S):
  ∃S',St E O G a w S' /\(Z (eM r) xs).p S' (Y l cap xs.length):=by
 cases mm with
 |true=>exact⟨S,h.drop,nc h.own.1.1⟩
 |false=>
  obtain⟨S',H⟩:=h.freeze
  exact⟨S',H.drop,nc H.own.1.1⟩
end

section
variable{E:En}{e:Exit}
def N9{N:Fr}(h:dm N S a G)(hk:t.p S (a.tmps.getD k undef)):dm N S a ((k,t)::G):=
 ⟨h.size,h.defers,fun j u hj=>by
  unfold look at hj
  by_cases A:Nat.beq k j=true
  ·rw [A]at hj
   have:=qZ A
   subst this
   rw [<-show t=u from by simpa using hj];exact hk
  ·rw [DB]at A
   rw [A]at hj
   exact h.at_ j u hj⟩
def St.cons(h:St E O G a w S)(hk:t.p S (a.tmps.getD k undef)):St E O ((k,t)::G) a w S:=⟨h.ext,h.sat,h.own,N9 h.facts hk⟩
def St.tipAt{r:Rp α}{n:Nat}(h:St E (K r T l cap xs::O) G a w S)(hk:look G k=some (tV (Y l cap n)))(hn:n=xs.length):
  St E (K r T l cap xs::O) ((k,tO r l cap xs)::G) a w S:=by
 subst hn
 have hv:a.tmps.getD k undef=Y l cap xs.length:=h.facts.at_ k _ hk
 exact h.cons ⟨hv,by rw [hv];exact nc h.own.1.1⟩
def ck(mm:Bool)(r:Rp α)(T:TypeId)(h:RG E ops aC rest (mh mm r T none 0 []::O) G):RG E ops aC rest O G:=fun a w S st=>h a w S (st.fresh mm r T)
def tH{f:OE}(h:RG E ops aC rest O G):RG E ops aC rest (f::O) G:=fun a w S st=>h a w S st.drop
def CG.drop{f:OE}(h:CG E aC c O G):CG E aC c (f::O) G:=fun a w S st=>h a w S st.drop
def aM{f:OE}(h:AT E aC e O G):AT E aC e (f::O) G:=fun a w S st=>h a w S st.drop
def dS{x y:OE}(h:RG E ops aC rest (y::x::O) G):RG E ops aC rest (x::y::O) G:=fun a w S st=>h a w S (st.own_map dA.swap)
def Jx{x y:OE}(h:CG E aC c (y::x::O) G):CG E aC c (x::y::O) G:=fun a w S st=>h a w S (st.own_map dA.swap)
def dI{x y:OE}(h:AT E aC e (y::x::O) G):AT E aC e (x::y::O) G:=fun a w S st=>h a w S (st.own_map dA.swap)
def hU{x y z:OE}(h:RG E ops aC rest (z::x::y::O) G):RG E ops aC rest (x::y::z::O) G:=fun a w S st=>h a w S (st.own_map te)
def Sf{x y z:OE}(h:CG E aC c (z::x::y::O) G):CG E aC c (x::y::z::O) G:=fun a w S st=>h a w S (st.own_map te)
def gj{x y z:OE}(h:AT E aC e (z::x::y::O) G):AT E aC e (x::y::z::O) G:=fun a w S st=>h a w S (st.own_map te)
def ka{x y z:OE}(h:RG E ops aC rest (u::x::y::z::O) G):RG E ops aC rest (x::y::z::u::O) G:=fun a w S st=>h a w S (st.own_map wh)
def kc{x y z:OE}(h:AT E aC e (u::x::y::z::O) G):AT E aC e (x::y::z::u::O) G:=fun a w S st=>h a w S (st.own_map wh)
def qe{x y z v:OE}(h:RG E ops aC rest (v::x::y::z::u::O) G):RG E ops aC rest (x::y::z::u::v::O) G:=fun a w S st=>h a w S (st.own_map wg)
def eb{x y z v:OE}(h:AT E aC e (v::x::y::z::u::O) G):AT E aC e (x::y::z::u::v::O) G:=fun a w S st=>h a w S (st.own_map wg)
def yH{f:OE}(h:LG E aC c O G):LG E aC c (f::O) G:=fun a w S st=>h a w S st.drop
def hZ{x y:OE}(h:LG E aC c (y::x::O) G):LG E aC c (x::y::O) G:=fun a w S st=>h a w S (st.own_map dA.swap)
def kb{x y z:OE}(h:LG E aC c (z::x::y::O) G):LG E aC c (x::y::z::O) G:=fun a w S st=>h a w S (st.own_map te)
def rA{x y z:OE}(h:LG E aC c (u::x::y::z::O) G):LG E aC c (x::y::z::u::O) G:=fun a w S st=>h a w S (st.own_map wh)
def Ev{x y z v:OE}(h:LG E aC c (v::x::y::z::u::O) G):LG E aC c (x::y::z::u::v::O) G:=fun a w S st=>h a w S (st.own_map wg)
def qf{r:Rp α}(h:RG E ops aC rest (K r T l cap xs::O) G):RG E ops aC rest (f6 r T l cap xs::O) G:=fun a w _ st=>let⟨S',st'⟩:=st.freeze;h a w S' st'
def xK{r:Rp α}{n:Nat}(k:Nat)(hk:look G k=some (tV (Y l cap n)))(h:RG E ops aC rest (K r T l cap xs::O) ((k,tO r l cap xs)::G))(hn:n=xs.length:=by rfl):RG E ops aC rest (K r T l cap xs::O) G:=fun a w S st=>h a w S (st.tipAt hk hn)
def Uy{r:Rp α}{n:Nat}(k:Nat)(hk:look G k=some (tV (Y l cap n)))(h:CG E aC c (K r T l cap xs::O) ((k,tO r l cap xs)::G))(hn:n=xs.length:=by rfl):CG E aC c (K r T l cap xs::O) G:=fun a w S st=>h a w S (st.tipAt hk hn)
def tf{r:Rp α}(h:AT E aC e (K r T l cap xs::O) G):AT E aC e (f6 r T l cap xs::O) G:=fun a w _ st=>let⟨S',st'⟩:=st.freeze;h a w S' st'
def iZ{r:Rp α}{n:Nat}(k:Nat)(hk:look G k=some (tV (Y l cap n)))(h:AT E aC e (K r T l cap xs::O) ((k,tO r l cap xs)::G))(hn:n=xs.length:=by rfl):AT E aC e (K r T l cap xs::O) G:=fun a w S st=>h a w S (st.tipAt hk hn)
def Ew{r:Rp α}(h:LG E aC c (K r T l cap xs::O) G):LG E aC c (f6 r T l cap xs::O) G:=fun a w _ st=>let⟨S',st'⟩:=st.freeze;h a w S' st'
def HP{r:Rp α}{n:Nat}(k:Nat)(hk:look G k=some (tV (Y l cap n)))(h:LG E aC c (K r T l cap xs::O) ((k,tO r l cap xs)::G))(hn:n=xs.length:=by rfl):LG E aC c (K r T l cap xs::O) G:=fun a w S st=>h a w S (st.tipAt hk hn)
def aN{r:Rp α}(hk:look G k=some (Z (eM r) xs))(h:xs.length<=maxLen->CG E aC c O G):CG E aC c O G:=fun a w S st=>by
 obtain⟨_,_,_,H,J,_⟩:=m4.1 (st.facts.at_ k _ hk)
 exact h (oj H J) a w S st

section
variable{ty:TypeId}
def St.append{r:Rp α}{t ty:TypeId}{sz:Nat}{agg:Bool}(ti:TI E.P T sz bytes agg z)(hsz:r.sz=sz)(hz:Nat.beq z.length sz=true)(h0:Nat.blt 0 sz=true)(h128:Nat.ble bytes 2048=true)(M:E.P.underlying t=some (.slice T))(st:St E (mh mm r T l cap xs::O) G a w S)(hsrc:Src E.P r.sz t' v ys.length news w)(hrc:ul r S news ys)(happ:oT xs ys=some zs):
  ∃l' cap' w' S',(Builtin.append_ #[t,t'] ty #[Y l cap xs.length,v]).run E.P w= .ok (Y l' cap' zs.length) w' /\St E (mh mm r T l' cap' zs::O) G a w' S' :=by
 obtain⟨l',cap',w',S',hr,hext,hsat,hh,hnew⟩:=zC (ty:=ty) ti hsz hz h0 h128 M st.sat st.own.1 st.base_le hsrc hrc happ
 refine⟨l',cap',w',S',hr,st.ext.step hext fun b A=>st.own.1.2 b A,hsat,⟨hh,fun f hf b A hfb=>?_,st.own.2.2.ext hext fun f hf b A hbl=>st.own.2.1 f hf b hbl A⟩,st.facts.mono hext.keep⟩
 rcases hnew b A with h|h
 ·exact st.own.2.1 f hf b h hfb
 ·have:=f.here (dA.mem st.own.2.2 f hf).1 b hfb
  omega
def St.put{ah:Nat}(h:St E O G a w S)(hd:Nat.blt ah E.N.n=true)(hv:t.p S v):St E O ((ah,t)::G) (a.put (some ah) v) w S:=⟨h.ext,h.sat,h.own,h.facts.put hd hv⟩
def Ch{r:Rp α}{t:TypeId}{sz:Nat}{agg:Bool}{n:Nat}{y:Operand}{u:Nat->Option Nat->Ty}(ti:TI E.P T sz bytes agg z)(hsz:r.sz=sz)(hz:Nat.beq z.length sz=true)(h0:Nat.blt 0 sz=true)(h128:Nat.ble bytes 2048=true)(M:E.P.underlying t=some (.slice T))(hd:Nat.blt ah E.N.n=true)(D:bk E.N G x (tV (Y l cap n)))(hy: ∀a w S,St E (mh mm r T l cap xs::O) G a w S-> ∃news,Src E.P r.sz t' (a.eval y) ys.length news w/\ul r S news ys)(happ:oT xs ys=some zs)(hu: ∀l' cap' w0 S,(mh mm r T l' cap' zs).p w0 S->(u cap' l').p S (Y l' cap' zs.length))(k: ∀l' cap',RG E ops aC rest (mh mm r T l' cap' zs::O) ((ah,u cap' l')::G))(hn:n=xs.length):
  RG E ops aC (⟨some ah,.call ⟨.builtin .append,#[x,y],#[t,t']⟩,ty,pos,after,none⟩::rest) (mh mm r T l cap xs::O) G:= .of rfl fun a w S st=>by
 subst hn
 have H:a.eval x=Y l cap xs.length:=D S a st.facts
 obtain⟨news,J,h3⟩:=hy a w S st
 obtain⟨l',cap',w',S',hr,st'⟩:=st.append (ty:=ty) ti hsz hz h0 h128 M J h3 happ
 have hrun:(execOp a.eval ⟨some ah,.call ⟨.builtin .append,#[x,y],#[t,t']⟩,ty,pos,after,none⟩).run E.P w= .ok (.value (Y l' cap' zs.length)) w' :=by
  simp [execOp,resolve,invoke,builtin,H,hr]
 refine⟨fun c h=>(by cases h),?_⟩
 rw [hrun]
 exact k l' cap' _ _ S' (st'.put hd (hu l' cap' w' S' st'.own.1.1))
def dZ{r:Rp α}{t:TypeId}{sz:Nat}{agg:Bool}{n:Nat}{y:Operand}(ti:TI E.P T sz bytes agg z)(hsz:r.sz=sz)(hz:Nat.beq z.length sz=true)(h0:Nat.blt 0 sz=true)(h128:Nat.ble bytes 2048=true)(M:E.P.underlying t=some (.slice T))(ht' :t' =t)(hd:Nat.blt ah E.N.n=true)(D:bk E.N G x (tV (Y l cap n)))(hy:bk E.N G y (Z (eM r) ys))(happ:oT xs ys=some zs)(k: ∀l' cap',RG E ops aC rest (f6 r T l' cap' zs::O) ((ah,tV (Y l' cap' zs.length))::G))(hn:n=xs.length:=by rfl):
  RG E ops aC (⟨some ah,.call ⟨.builtin .append,#[x,y],#[t,t']⟩,ty,pos,after,none⟩::rest) (f6 r T l cap xs::O) G:=by
 subst ht'
 exact Ch (u:=fun cap' l' =>tV (Y l' cap' zs.length)) ti hsz hz h0 h128 M hd D (fun a w S st=>zt M st.sat (hy S a st.facts)) happ (fun _ _ _ _ _=>rfl) k hn
def md{r:Rp α}{t:TypeId}{sz:Nat}{agg:Bool}{y:Operand}(ti:TI E.P T sz bytes agg z)(hsz:r.sz=sz)(hz:Nat.beq z.length sz=true)(h0:Nat.blt 0 sz=true)(h128:Nat.ble bytes 2048=true)(M:E.P.underlying t=some (.slice T))(ht' :t' =t)(hd:Nat.blt ah E.N.n=true)(D:bk E.N G x (tO r l cap xs))(hy:bk E.N G y (Z (eM r) ys))(happ:oT xs ys=some zs)(k: ∀l' cap',RG E ops aC rest (K r T l' cap' zs::O) ((ah,tO r l' cap' zs)::G)):
  RG E ops aC (⟨some ah,.call ⟨.builtin .append,#[x,y],#[t,t']⟩,ty,pos,after,none⟩::rest) (K r T l cap xs::O) G:=by
 subst ht'
 exact Ch (u:=fun cap' l' =>tO r l' cap' zs) ti hsz hz h0 h128 M hd (tR D) (fun a w S st=>zt M st.sat (hy S a st.facts)) happ (fun _ _ _ _ h=>⟨rfl,nc h⟩) k rfl
end
end

def C8(off:Nat): ∀(cs:List Value) (k:Nat) (pre mid post:List Value),mid.length=cs.length->pre.length=off+k->
  (cs.zipIdx k).foldl (fun(a:Array Value) x=>a.setIfInBounds (off+x.2) x.1) (pre++mid++post).toArray=(pre++cs++post).toArray
 |[],k,pre,mid,post,hm,_=>by
  have:mid=[]:=y9 hm
  subst this;simp
 |c::cs,k,pre,mid,post,hm,hp=>by
  cases mid with
  |nil=>simp at hm
  |cons m mid=>
   simp only [List.zipIdx_cons,List.foldl_cons]
   have H:(pre++(m::mid)++post).toArray.setIfInBounds (off+k) c=((pre++[c])++mid++post).toArray:=by
    rw [<-hp]
    simp
   rw [H,C8 off cs (k+1) (pre++[c]) mid post (by simpa using hm) (by simp;omega)]
   simp
def CB(v:Value)(off:Nat)(pre mid post:List Value)(hm:mid.length=v.cells.size)(hp:pre.length=off):
  v.cells.zipIdx.foldl (fun cs (x:Value×Nat)=>cs.setIfInBounds (off+x.2) x.1) (pre++mid++post).toArray=(pre++v.cells.toList++post).toArray:=by
 have:=C8 off v.cells.toList 0 pre mid post (by simpa using hm) (by simpa using hp)
 rw [<-this,<-Array.foldl_toList]
 simp [Array.toList_zipIdx]
def xq{r:Rp α}{x:α}(h:r.rc S cs x):(r.val cs).cells=cs.toArray:=by
 unfold Rp.val
 cases ha:r.agg with
 |true=>simp [Value.cells]
 |false=>
  have hl:=r.len h
  rw [r.sc ha]at hl
  match cs,hl with
  |[c],_=>
   have:=r.one h c (by simp)
   cases c<;>simp_all [Value.cells,Value.oneCell']
def ET:Nat->List Value->List (Nat×Value)
 |_,[]=>[]
 |k,v::vs=>(k,v)::ET (k+1) vs
def Hj{α:Type}{r:Rp α}{S:SH}: ∀(ys:List α) (vs:List Value) (k:Nat) (pre zs:List Value),AZ S (ys.map (Z r)) vs->pre.length=k*r.sz->zs.length=ys.length*r.sz->
  ∃cs,ul r S cs ys/\Instr.fill (fun i=>some (i*r.sz,r.sz)) (pre++zs).toArray (ET k vs)=some (pre++cs).toArray
 |[],[],k,pre,zs,_,_,hz=>by
  have:zs=[]:=y9 (by simpa using hz)
  subst this
  exact⟨[],rfl,by simp [ET,Instr.fill]⟩
 |y::ys,v::vs,k,pre,zs,⟨⟨c,e,hc⟩,J⟩,hp,hz=>by
  have hl:=r.len hc
  have hz' :r.sz<=zs.length:=by rw [hz,ji,AO];omega
  have e1:zs=zs.take r.sz++zs.drop r.sz:=(uN _ _).symm
  have hcells:v.cells=c.toArray:=by rw [e];exact xq hc
  obtain⟨cs,h3,h4⟩:=Hj ys vs (k+1) (pre++c) (zs.drop r.sz) J (by rw [pg,hp,hl,AO];omega) (by rw [Ct,hz,ji,AO];omega)
  refine⟨c++cs,⟨c,cs,rfl,hc,h3⟩,?_⟩
  have hs:v.cells.size=r.sz:=by rw [hcells];simpa using hl
  have hcond: ¬((v.cells.size≠r.sz)\/(k*r.sz+v.cells.size>(pre++zs).toArray.size)):=by
   simp [hs];omega
  have h5:=CB v (k*r.sz) pre (zs.take r.sz) (zs.drop r.sz) (by simp [hs];omega) hp
  rw [gF,<-e1]at h5
  simp only [ET,Instr.fill]
  rw [cm (by simpa using hcond)]
  rw [h5,hcells]
  simpa using h4
def Bm:Nat->List Operand->List (Nat×Operand)
 |_,[]=>[]
 |k,v::vs=>(k,v)::Bm (k+1) vs
def El(ρ:Operand->Value): ∀(k:Nat) (xs:List Operand),(Bm k xs).map (fun x=>(x.1,ρ x.2))=ET k (xs.map ρ)
 |_,[]=>rfl
 |k,x::xs=>by simp [Bm,ET,El ρ (k+1) xs]

section
variable{E:En}{ty:TypeId}
def zB{P:Program}{r:Rp α}{xs:List Operand}{ρ:Operand->Value}{t:TypeId}{n sz:Nat}{agg:Bool}(M:P.underlying t=some (.slice T))(ti:TI P T sz bytes agg z)(hsz:r.sz=sz)(hn:n=ys.length)(A:Nat.ble (n*sz) 16777216=true)(D:AZ S (ys.map (Z r)) (xs.map ρ))(w:World):
  ∃cs,ul r S cs ys/\(Instr.buildSlice t n ((Bm 0 xs).toArray.map fun x=>(x.1,ρ x.2))).run P w= .ok (.slice (some ⟨w.heap.size,0,none⟩) n n) (w.alloc (.cells cs.toArray T (0,0))):=by
 subst hsz
 have hb' :=uq A
 obtain⟨zv,hzr,_⟩:=ti.zero w
 obtain⟨cs,hc,hfill⟩:=Hj ys (xs.map ρ) 0 [] ((Array.range (n*r.sz)).map (fun i=>(if n*r.sz=0 then #[]else zv.cells)[i%(if n*r.sz=0 then #[]else zv.cells).size]!)).toList D (by simp) (by simp [hn])
 refine⟨cs,hc,?_⟩
 have hparts:((Bm 0 xs).toArray.map fun x=>(x.1,ρ x.2)).toList=ET 0 (xs.map ρ):=by simp [El]
 simp only [qo,Array.toArray_toList]at hfill
 have hle: ¬(n*r.sz>2^24):=by omega
 by_cases hn0:n*r.sz=0
 ·simp only [hn0,jb]at hfill
  simp only [Instr.buildSlice,sA,jZ M,tJ,ti.sizeOf,Sem.run_ite,hn0,jb,ED,hparts,hfill]
  simp [newRow]
 ·simp only [hn0,jh]at hfill
  simp only [Instr.buildSlice,sA,jZ M,tJ,ti.sizeOf,Sem.run_ite,hle,jh,hn0,ED,hzr,hparts,hfill]
  simp [newRow]
def ba{r:Rp α}{xs:List Operand}{parts:List (Nat×Operand)}{t:TypeId}{n sz:Nat}{agg:Bool}(M:E.P.underlying t=some (.slice T))(ti:TI E.P T sz bytes agg z)(hsz:r.sz=sz)(h0:Nat.blt 0 sz=true)(hp:parts=Bm 0 xs)(hn:n=ys.length)(A:Nat.ble (n*sz) 16777216=true)(D:kD E.N G xs (ys.map (Z r))):cH E O G ⟨dst,.buildSlice t n parts.toArray,ty,pos,after,g⟩ (Z (eM r) ys):=
 .of_run fun a w S hs _ hf=>by
  obtain⟨cs,hc,hr⟩:=zB M ti hsz hn A (D.tys hf) w
  subst hsz
  have hb' :=uq A
  have h0' :0<r.sz:=by simpa [tM] using h0
  have hnle:n<=n*r.sz:=Nat.le_mul_of_pos_right n h0'
  obtain⟨he,hs'⟩:=wX (w:=w) (.cells cs.toArray T (0,0)) hs
  have hcl:=mC hc
  refine⟨.slice (some ⟨w.heap.size,0,none⟩) n n,_,_,?_,he,hs',m4.2 ⟨_,n,by rw [hn],by omega,by simp only [maxLen];omega,.inr ⟨w.heap.size,0,cs.toArray,T,(0,0),rfl,by simp [SH.set],?_⟩⟩⟩
  ·subst hp
   simp only [execOp,sA,hr,tJ,ED]
  ·have:ul r (S.set w.heap.size (.cells cs.toArray T (0,0))) cs ys:=tZ he.keep hc
   simpa [<-hcl] using this
def NQ{r:Rp α}{v:α}(D:bk E.N G x (Z r v)):cH E O G ⟨dst,.box T x,ty,pos,after,g⟩ (bo r v):=
 .of_run fun a w S hs _ hf=>by
  obtain⟨cs,hv,hc⟩:=D S a hf
  obtain⟨he,hs'⟩:=wX (w:=w) (.cells cs.toArray T (0,0)) hs
  refine⟨.pointer (some ⟨w.heap.size,0,none⟩),_,_,?_,he,hs',w.heap.size,0,cs.toArray,T,(0,0),rfl,by simp [SH.set],?_⟩
  ·simp [execOp,Instr.box,newVar,newRow,hv,xq hc]
  ·have:=r.mono he.keep hc
   have hl:=r.len hc
   simpa [<-hl] using this
end

def qj(c:Bool)(t:Ty):Ty where
 p:=fun S v=>if c=true then t.p S v else v=undef
 mono:=fun h k=>by
  split
  ·rename_i hc;rw [cx hc]at k;exact t.mono h k
  ·rename_i hc;rw [cm hc]at k;exact k
variable{pol:Bool}
section
variable{E:En}
def bE{N:Fr}{c:Bool}(h:look G k=some (qj c t))(hc:c=true):bk N G (.tmp k) t:=fun _ _ hF=>by
 have J:if c=true then t.p _ (Act.eval _ (.tmp k))else _=undef:=hF.at_ k _ h
 rw [cx hc]at J;exact J
def wI(c b:Bool):Ty:=qj c (Z rB b)
def wH(h:look G k=some (Z rB b)):bk E.N G (.tmp k) (wI true b):=fun _ _ hF=>by
 have J:(Z rB b).p _ (Act.eval _ (.tmp k)):=hF.at_ k _ h
 simp only [wI,qj,jb]
 exact J
def D8{c:Bool}(h:look G k=some (qj c (Z rB b))):bk E.N G (.tmp k) (wI c b):=fun _ _ hF=>hF.at_ k _ h
def F5{c:Bool}(V:o.guard=some (j,pol))(hj:(ops[j]?).bind (·.dst)=some gs)(hn:gs<a.tmps.size)(hv:(wI c b).p S (a.tmps.getD gs undef)):
  Region.wanted o (yielded ops a.tmps)=(c&&(b==pol)):=by
 have hget:a.tmps[gs]? =some (a.tmps.getD gs undef):=by
  rw [KO,Array.getElem?_eq_getElem hn];rfl
 unfold Region.wanted
 rw [V]
 simp only [yielded,hj,bI,hget]
 cases c with
 |true=>
  have:a.tmps.getD gs undef= .bool b:=kP.1 (by simpa [wI,qj] using hv)
  rw [this]
  cases b<;>cases pol<;>rfl
 |false=>
  have:a.tmps.getD gs undef=undef:=by simpa [wI,qj] using hv
  rw [this]
  cases pol<;>rfl
def KI{c:Bool}{op:Op}{ty:TypeId}(hj:(ops[j]?).bind (·.dst)=some gs)(hgs:Nat.blt gs E.N.n=true)(V:bk E.N G (.tmp gs) (wI c b))(hd:Nat.blt ah E.N.n=true)(h:(c&&(b==pol))=true->cH E O G ⟨some ah,op,ty,pos,after,some (j,pol)⟩ t)(k:RG E ops aC rest O ((ah,qj (c&&(b==pol)) t)::G)):
  RG E ops aC (⟨some ah,op,ty,pos,after,some (j,pol)⟩::rest) O G:=fun a w S st=>by
 have hgs' :gs<a.tmps.size:=by rw [st.facts.size];simpa [tM] using hgs
 have hw:=F5 (o:=⟨some ah,op,ty,pos,after,some (j,pol)⟩) rfl hj hgs' (V S a st.facts)
 refine wpListIn_step fun aw hK=>?_
 rw [hw]
 by_cases hc:(c&&(b==pol))=true
 ·rw [cx hc]
  refine mw (fun a' w' ⟨v,S',ha,he,hs,hv⟩=>?_) (h hc a w S st.sat st.own st.facts)
  subst ha
  refine hK _ _ (k _ _ _ (st.step he hs hd ?_))
  simpa only [qj,hc,jb] using hv
 ·rw [cm hc]
  refine⟨fun _ _=>trivial,hK _ _ (k _ _ S (st.step (lq.refl _ _ _) st.sat hd ?_))⟩
  show if _ then _ else _
  rw [cm hc]
end

structure Nd where
 slot:Nat
 ty:Ty
 src:Option Nat
def bg(E:En)(O:List OE)(ops:Array Oper)(need:mM)(o:Oper)(t:Ty):Prop:=
 ∀a w S,mU w S->dA E.base E.B w S O->dm E.N S a need->
  if Region.wanted o (yielded ops a.tmps)then LN E.P o a w (fun a' w' => ∃v S',a' =a.put o.dst v/\lq wC w S w' S' /\mU w' S' /\t.p S' v)else t.p S undef
def kG:List Nd->mM
 |[]=>[]
 |n::l=>(n.slot,n.ty)::kG l
def EH(o:Oper)(j:Nat):Bool:=o.after.toList.any fun e=>Nat.beq e.on j&&Region.binds .any e
def q0(l:List Oper)(o:Oper)(i:Nat)(n:Nd):Bool:=
 match n.src with
 |some j=>(match l[j]? with|some p=>(match p.dst with|some ah=>Nat.beq ah n.slot|none=>false)|none=>false)&&EH o j
 |none=>l.all fun p=>(match p.dst with|some ah=> !(Nat.beq ah n.slot)|none=>true)||EH p i
def Dx(G:mM)(ts:List Ty)(n:Nd):Prop:=
 match n.src with
 |some j=>ts[j]? =some n.ty
 |none=>look G n.slot=some n.ty
def uL(G:mM)(ts:List Ty):List Nd->Prop
 |[]=>True
 |n::l=>Dx G ts n/\uL G ts l
def uL.mem: ∀{l:List Nd},uL G ts l-> ∀n∈l,Dx G ts n
 |_::_,⟨h,_⟩,_,.head _=>h
 |_::_,⟨_,h⟩,_,.tail _ hm=>uL.mem h _ hm
def Wv(o:Oper):Nat:=o.dst.getD 0
def ft(i:Nat)(o:Oper):Bool:=o.after.toList.all fun e=> !(Region.binds .any e)||Nat.blt e.on i
def DR(E:En)(O:List OE)(G:mM)(l:List Oper)(ts:List Ty):Nat->List Oper->Prop
 |_,[]=>True
 |i,o::rest=>(∃(needs:List Nd) (t:Ty),ts[i]? =some t/\uL G ts needs/\(needs.all (q0 l o i))=true/\ft i o=true/\bg E O l.toArray (kG needs) o t)/\DR E O G l ts (i+1) rest
def xX(N:Nat):List Nat->List Oper->Bool
 |_,[]=>true
 |seen,o::rest=>(match o.dst with|some ah=>Nat.blt ah N&& !(seen.any (Nat.beq ah))&&xX N (ah::seen) rest|none=>false)
def adj(E:En)(O:List OE)(G:mM)(l:List Oper)(ts:List Ty)(i:Nat)(o:Oper):Prop:=
 ∃(needs:List Nd) (t:Ty),ts[i]? =some t/\uL G ts needs/\(needs.all (q0 l o i))=true/\ft i o=true/\bg E O l.toArray (kG needs) o t
def DR.get{E:En}{l:List Oper}(r:List Oper): ∀(k:Nat),DR E O G l ts k r-> ∀(j:Nat) (o:Oper),r[j]? =some o->adj E O G l ts (k+j) o:=by
 induction r with
 |nil=>intro k _ j o h;simp at h
 |cons p r ih=>
  intro k h j o ho
  cases j with
  |zero=>simp at ho;subst ho;exact h.1
  |succ j=>
   have:=ih (k+1) h.2 j o (by simpa using ho)
   rwa [show k+1+j=k+(j+1)from by omega]at this
def zu{N:Nat}(l:List Oper): ∀(seen:List Nat),xX N seen l=true->
  (∀o:Oper,o∈l-> ∃ah,o.dst=some ah/\ah<N/\ah∉seen)/\ ∀(i j:Nat) (o p:Oper),l[i]? =some o->l[j]? =some p->o.dst=p.dst->i=j:=by
 induction l with
 |nil=>exact fun _ _=>⟨fun _ h=>(by cases h),fun _ _ _ _ h=>(by simp at h)⟩
 |cons o l ih=>
  intro seen h
  unfold xX at h
  cases hd:o.dst with
  |none=>rw [hd]at h;cases h
  |some ah=>
   rw [hd]at h
   simp only [jM,zh]at h
   obtain⟨⟨H,J⟩,h3⟩:=h
   have h2' :ah∉seen:=fun hm=>by
    rw [List.any_eq_false]at J
    exact J ah hm (by simp)
   obtain⟨ih1,ih2⟩:=ih _ h3
   refine⟨fun q hq=>?_,fun i j q p hi hj hdp=>?_⟩
   ·rcases gn.1 hq with rfl|hq
    ·exact⟨ah,hd,by simpa [tM] using H,h2'⟩
    ·obtain⟨d',e1,e2,e3⟩:=ih1 q hq
     exact⟨d',e1,e2,fun hm=>e3 (oO _ hm)⟩
   ·cases i with
    |zero=>
     cases j with
     |zero=>rfl
     |succ j=>
      simp at hi hj
      subst hi
      obtain⟨d',e1,_,e3⟩:=ih1 p (uo hj)
      rw [hd,e1]at hdp
      have e4:ah=d' :=by simpa using hdp
      exact absurd (by rw [e4];exact oh ..) e3
    |succ i=>
     cases j with
     |zero=>
      simp at hi hj
      subst hj
      obtain⟨d',e1,_,e3⟩:=ih1 q (uo hi)
      rw [hd,e1]at hdp
      have e4:d' =ah:=by simpa using hdp
      exact absurd (by rw [e4];exact oh ..) e3
     |succ j=>rw [ih2 i j q p (by simpa using hi) (by simpa using hj) hdp]

structure DJ(E:En)(O:List OE)(G:mM)(l:List Oper)(ts:List Ty)(done:Array Bool)(a:Act)(w:World)(S:SH):Prop where
 ext:lq E.B E.w0 E.S0 w S
 sat:mU w S
 own:dA E.base E.B w S O
 size:a.tmps.size=E.N.n
 defers:a.defers=E.N.ds
 dsz:done.size=l.length
 down: ∀j o,l[j]? =some o->done.getD j false=true-> ∀e∈o.after,Region.binds .any e=true->done.getD e.on false=true
 old: ∀k t,look G k=some t->(∀j o,l[j]? =some o->done.getD j false=true->o.dst≠some k)->t.p S (a.tmps.getD k undef)
 new: ∀j o ah t,l[j]? =some o->done.getD j false=true->o.dst=some ah->ts[j]? =some t->t.p S (a.tmps.getD ah undef)
def DJ.need{E:En}{l:List Oper}(h:DJ E O G l ts done a w S)(hi:l[i]? =some o)(hun:done.getD i true=false)(hwait: ∀e∈o.after,Region.binds .any e=true->done.getD e.on false=true){needs:List Nd}(H:uL G ts needs)(J:(needs.all (q0 l o i))=true):dm E.N S a (kG needs):=by
 have hlt:i<done.size:=by rw [h.dsz];exact(kN.1 hi).1
 have hun' :done.getD i false=false:=by
  simp [hlt]at hun ⊢;exact hun
 refine⟨h.size,h.defers,?_⟩
 have key: ∀n∈needs,n.ty.p S (a.tmps.getD n.slot undef):=by
  intro n hn
  have hs:=ph.1 J n hn
  have ho:=H.mem n hn
  unfold q0 at hs
  unfold Dx at ho
  cases hsrc:n.src with
  |some j=>
   rw [hsrc]at hs ho
   simp only [jM]at hs
   obtain⟨hs1,hs2⟩:=hs
   cases hj:l[j]? with
   |none=>rw [hj]at hs1;cases hs1
   |some p=>
    rw [hj]at hs1
    cases hd:p.dst with
    |none=>simp only [hd]at hs1;cases hs1
    |some ah=>
     simp only [hd]at hs1
     have hd' :=qZ hs1
     subst hd'
     have hdone:done.getD j false=true:=by
      unfold EH at hs2
      obtain⟨e,he0,A⟩:=EZ.1 hs2
      have he:e∈o.after:=by simpa using he0
      simp only [jM]at A
      have:=hwait e he A.2
      rwa [qZ A.1]at this
     exact h.new j p n.slot n.ty hj hdone hd ho
  |none=>
   rw [hsrc]at hs ho
   refine h.old _ _ ho fun j p hj hdone hd=>?_
   have:=ph.1 hs p (uo hj)
   simp only [hd,Nat.beq_refl,qY,Bs]at this
   unfold EH at this
   obtain⟨e,he0,A⟩:=EZ.1 this
   have he:e∈p.after:=by simpa using he0
   simp only [jM]at A
   have h3:=h.down j p hj hdone e he A.2
   rw [qZ A.1]at h3
   rw [h3]at hun'
   cases hun'
 clear H J
 intro k t hk
 induction needs with
 |nil=>simp [kG,look]at hk
 |cons n needs ih=>
  unfold kG look at hk
  by_cases A:Nat.beq n.slot k=true
  ·rw [A]at hk
   have:=qZ A
   subst this
   have e:n.ty=t:=by simpa using hk
   rw [<-e]
   exact key n (oh ..)
  ·rw [DB]at A
   rw [A]at hk
   exact ih (fun m hm=>key m (oO _ hm)) hk
def NL:List Oper->List Ty->mM->mM
 |o::l,t::ts,G=>(Wv o,t)::NL l ts G
 |_,_,G=>G
def I5(l:List Oper): ∀(ts:List Ty) (k:Nat) (t:Ty),(∀o:Oper,o∈l->o.dst≠none)->ts.length=l.length->look (NL l ts G) k=some t->
  (∃(j:Nat) (o:Oper),l[j]? =some o/\o.dst=some k/\ts[j]? =some t)\/(look G k=some t/\ ∀o:Oper,o∈l->o.dst≠some k):=by
 induction l with
 |nil=>
  intro ts k t _ hl h
  have:ts=[]:=y9 (by simpa using hl)
  subst this
  exact .inr ⟨h,fun _ h=>(by cases h)⟩
 |cons o l ih=>
  intro ts k t hne hl h
  cases ts with
  |nil=>simp at hl
  |cons u ts=>
   unfold NL look at h
   by_cases A:Nat.beq (Wv o) k=true
   ·rw [A]at h
    have hk:=qZ A
    refine .inl ⟨0,o,rfl,?_,by simpa using h⟩
    cases hd:o.dst with
    |none=>exact absurd hd (hne o (oh ..))
    |some ah=>simp only [Wv,hd,Option.getD_some]at hk;rw [hk]
   ·rw [DB]at A
    rw [A]at h
    rcases ih ts k t (fun p hp=>hne p (oO _ hp)) (by simpa using hl) h with⟨j,p,H,J,h3⟩|⟨H,J⟩
    ·exact .inl ⟨j+1,p,by simpa using H,J,by simpa using h3⟩
    ·refine .inr ⟨H,fun p hp hd=>?_⟩
     rcases gn.1 hp with rfl|hp
     ·simp [Wv,hd]at A
     ·exact J p hp hd
def wx(hd:ah<a.tmps.size):(a.put (some ah) v).tmps.getD k undef=if ah=k then v else a.tmps.getD k undef:=by
 by_cases h:ah=k
 ·subst h;simp [Act.put,KO,hd]
 ·simp [Act.put,KO,h]
def DJ.step{E:En}{l:List Oper}(h:DJ E O G l ts done a w S)(hsl:xX E.N.n [] l=true)(hi:l[i]? =some o)(hwait: ∀e∈o.after,Region.binds .any e=true->done.getD e.on false=true)(M:ts[i]? =some t)(hun:done.getD i true=false)(hext:lq wC w S w' S')(hsat:mU w' S')(hv:t.p S' v):DJ E O G l ts (done.setIfInBounds i true) (a.put o.dst v) w' S' :=by
 obtain⟨hs1,hs2⟩:=zu l [] hsl
 obtain⟨ah,hd,hdN,_⟩:=hs1 o (uo hi)
 have hda:ah<a.tmps.size:=by rw [h.size];exact hdN
 have hlt:i<done.size:=by rw [h.dsz];exact(kN.1 hi).1
 have hset: ∀j,(done.setIfInBounds i true).getD j false=true->j=i\/done.getD j false=true:=fun j hj=>by
  by_cases hij:i=j
  ·exact .inl hij.symm
  ·rw [yK false hij]at hj;exact .inr hj
 have hseti:(done.setIfInBounds i true).getD i false=true:=by simp [hlt]
 have hun' :done.getD i false=false:=by simp [hlt]at hun ⊢;exact hun
 refine⟨h.ext.step0 hext,hsat,h.own.ext0 hext,?_,?_,by simp [h.dsz],fun j p hj hdone e he A=>?_,fun k u hk hno=>?_,fun j p d' u hj hdone hd' hu=>?_⟩
 ·rw [hd];simp [Act.put,h.size]
 ·rw [hd];exact h.defers
 ·rcases hset j hdone with rfl|hj'
  ·rw [hi]at hj
   have:o=p:=by simpa using hj
   subst this
   exact AP (hwait e he A)
  ·exact AP (h.down j p hj hj' e he A)
 ·have hne:ah≠k:=fun e=>hno i o hi hseti (by rw [hd,e])
  rw [hd,wx hda,cm hne]
  exact u.mono hext.keep (h.old k u hk fun j p hj hdone=>hno j p hj (AP hdone))
 ·rw [hd,wx hda]
  rcases hset j hdone with rfl|hj'
  ·rw [hi]at hj
   have:o=p:=by simpa using hj
   subst this
   rw [hd]at hd'
   have:ah=d' :=by simpa using hd'
   subst this
   rw [cx rfl]
   rw [M]at hu
   have:t=u:=by simpa using hu
   subst this
   exact hv
  ·have hne:ah≠d' :=fun e=>by
    subst e
    have:=hs2 i j o p hi hj (by rw [hd,hd'])
    subst this
    rw [hj']at hun';cases hun'
   rw [cm hne]
   exact u.mono hext.keep (h.new j p d' u hj hj' hd' hu)
def MA{l:List Oper}{done:Array Bool}(hsz:done.size=l.length)(hedge: ∀i o,l[i]? =some o->ft i o=true)(hr:Region.ready .any l.toArray done=[]): ∀n i,i<n->i<l.length->done.getD i false=true
 |0,i,h,_=>by omega
 |n+1,i,h,hi=>by
  have ih:=MA hsz hedge hr n
  by_cases hd:done.getD i true=true
  ·have:i<done.size:=by omega
   simp [this]at hd ⊢;exact hd
  ·exfalso
   have hmem:i∈Region.ready .any l.toArray done:=by
    rw [vA]
    refine⟨by simpa using hd,l[i],by simp [hi],fun e he A=>?_⟩
    have:=hedge i l[i] (by simp [hi])
    unfold ft at this
    have:=ph.1 this e (by simpa using he)
    simp only [A,qY,Bs,tM]at this
    exact ih e.on (by omega) (by omega)
   rw [hr]at hmem
   cases hmem
def mN(done:Array Bool):Nat:=done.toList.countP (· ==false)
def sJ(h:done.getD i true=false):mN (done.setIfInBounds i true)+1=mN done:=by
 have hlt:i<done.size:=by
  rcases oP i done.size with h' |h'
  ·exact h'
  ·simp [Array.getElem?_eq_none h']at h
 have hv:done[i]=false:=by simpa [hlt] using h
 unfold mN
 rw [Array.toList_setIfInBounds,List.countP_set (by simpa using hlt)]
 have J:(done.toList[i]'(by simpa using hlt))=false:=by simpa using hv
 have hpos:0<done.toList.countP (· ==false):=List.countP_pos_iff.2 ⟨done.toList[i]'(by simpa using hlt),Iv _,by rw [J];rfl⟩
 rw [J,cx (show(false==false)=true from rfl),cm (show¬((true==false)=true) by decide)]
 omega
def Na{E:En}{l:List Oper}(hsl:xX E.N.n [] l=true)(hd:DR E O G l ts 0 l)(hQ: ∀done a w S,DJ E O G l ts done a w S->(∀i,i<l.length->done.getD i false=true)->aC .normal a w):
  ∀(fuel:Nat) (done:Array Bool) (a:Act) (w:World) (S:SH),mN done=fuel->DJ E O G l ts done a w S->wpAnyIn (fw E.r) 0 E.P .any l.toArray aC fuel done a w:=by
 have hedge: ∀i o,l[i]? =some o->ft i o=true:=fun i o hi=>by
  obtain⟨_,_,_,_,_,h,_⟩:=DR.get l 0 hd i o hi
  simpa using h
 have fin: ∀done a w S,DJ E O G l ts done a w S->Region.ready .any l.toArray done=[]->aC .normal a w:=fun done a w S h hr=>
  hQ done a w S h fun i hi=>MA h.dsz hedge hr (i+1) i (by omega) hi
 intro fuel
 induction fuel with
 |zero=>
  intro done a w S hu h
  have hr:Region.ready .any l.toArray done=[]:=by
   cases hr:Region.ready .any l.toArray done with
   |nil=>rfl
   |cons i r=>
    have hm:i∈Region.ready .any l.toArray done:=by rw [hr];exact oh ..
    have:=sJ (vA.1 hm).1
    omega
  exact⟨hr,fin done a w S h hr⟩
 |succ fuel ih=>
  intro done a w S hu h
  refine⟨fin done a w S h,fun i hi=>?_⟩
  obtain⟨hun,o,ho,hwait⟩:=vA.1 hi
  have ho' :l[i]? =some o:=by simpa using ho
  obtain⟨needs,t,H,J,h3,_,h5⟩:=DR.get l 0 hd i o ho'
  rw [sE]at H h3
  have hF:=h.need ho' hun hwait J h3
  have h6:=h5 a w S h.sat h.own hF
  have hu' :mN (done.setIfInBounds i true)=fuel:=by have:=sJ hun;omega
  unfold wpOpIn
  rw [ho]
  show if _ then _ else _
  by_cases hw:Region.wanted o (yielded l.toArray a.tmps)=true
  ·rw [cx hw]at h6 ⊢
   refine mw (fun a' w' ⟨v,S',ha,he,hs,hv⟩=>?_) h6
   subst ha
   exact ih _ _ _ S' hu' (h.step hsl ho' hwait H hun he hs hv)
  ·rw [cm hw]at h6 ⊢
   exact⟨fun _ _=>trivial,ih _ _ _ S hu' (h.step hsl ho' hwait H hun (lq.refl _ _ _) h.sat h6)⟩
section
variable{E:En}
def d8{id:Nat}{l:List Oper}(hm:E.P.follows .mixedOrders=true)(hsl:xX E.N.n [] l=true)(hlen:ts.length=l.length)(hd:DR E O G l ts 0 l)(k:AT E aC .normal O (NL l ts G)):
  CG E aC (.region id l.toArray true) O G:=fun a w S st=>by
 refine wpIn_region_any hm ?_
 obtain⟨he,hs⟩:=DA (w:=w) st.sat
 refine Na hsl hd (fun done a w S h hall=>k a w S ⟨h.ext,h.sat,h.own,h.size,h.defers,fun j t hj=>?_⟩) _ _ _ _ S ?_
  ⟨st.ext.step0 he,hs,st.own.ext0 he,st.facts.size,st.facts.defers,by simp,fun j o hj hdone=>?_,fun k t hk _=>st.facts.at_ k t hk,fun j o ah t hj hdone=>?_⟩
 ·obtain⟨hs1,_⟩:=zu l [] hsl
  rcases I5 l ts j t (fun o ho e=>by obtain⟨ah,hd,_⟩:=hs1 o ho;rw [hd]at e;cases e) hlen hj with⟨i,o,H,J,h3⟩|⟨H,J⟩
  ·exact h.new i o j t H (hall i (kN.1 H).1) J h3
  ·exact h.old j t H fun i o ho _=>J o (uo ho)
 ·unfold mN;rw [O7,OZ];simp
 ·simp [Bz]at hdone
  split at hdone<;>simp at hdone
 ·simp [Bz]at hdone
  split at hdone<;>simp at hdone
def h2{need:mM}(V:o.guard=none)(h:cH E O need o t):bg E O ops need o t:=fun a w S hs ho hf=>by
 have:Region.wanted o (yielded ops a.tmps)=true:=by unfold Region.wanted;rw [V]
 rw [this,cx rfl]
 exact h a w S hs ho hf
def Ag{l:List Oper}{need:mM}{c:Bool}(V:o.guard=some (j,pol))(hj:((l.toArray)[j]?).bind (·.dst)=some gs)(hgs:Nat.blt gs E.N.n=true)(A:bk E.N need (.tmp gs) (wI c b))(h:(c&&(b==pol))=true->cH E O need o t):bg E O l.toArray need o (qj (c&&(b==pol)) t):=fun a w S hs ho hf=>by
 have hw:=F5 (ops:=l.toArray) V hj (by rw [hf.size];simpa [tM] using hgs) (A S a hf)
 rw [hw]
 by_cases hc:(c&&(b==pol))=true
 ·rw [cx hc]
  refine pZ (fun a' w' ⟨v,S',ha,he,hs,hv⟩=>⟨v,S',ha,he,hs,?_⟩) (h hc a w S hs ho hf)
  show if _ then _ else _
  rw [cx hc];exact hv
 ·rw [cm hc]
  show if _ then _ else _
  rw [cm hc]
end
variable{α0:Type}{Gf:α0->mM}{Of:α0->List OE}{α1 α10 α11 α12 α2 α3 α4 α5 α6 α7 α8 α9:Type}
section
variable{E:En}
def Jz{id:Nat}{tD:Prop}{Of:List OE}{Gf:mM}(hK:tD->AT E aC .normal (Of) (Gf))(h:(tD->AT E aC .normal (Of) (Gf))->CG E (Exit.inBlock id aC) c O G):CG E aC (.block id c) O G:=ai (h hK)
def pd{tD:Nat->α0->Prop}(h0: ∀x0,tD 0 x0->False)(h: ∀n,(∀x0,tD n x0->LG E aC c (Of x0) (Gf x0))-> ∀x0,tD (n+1) x0->LG E aC c (Of x0) (Gf x0)): ∀n,∀x0,tD n x0->LG E aC c (Of x0) (Gf x0)
 |0=>fun x0 hz=>(h0 x0 hz).elim
 |n+1=>h n (pd h0 h n)
def dx{tD:List β->α0->Prop}{Of:List β->α0->List OE}{Gf:List β->α0->mM}(h0: ∀x0,tD [] x0->LG E aC c (Of [] x0) (Gf [] x0))(h: ∀b l,(∀x0,tD l x0->LG E aC c (Of l x0) (Gf l x0))-> ∀x0,tD (b::l) x0->LG E aC c (Of (b::l) x0) (Gf (b::l) x0)): ∀l,∀x0,tD l x0->LG E aC c (Of l x0) (Gf l x0)
 |[]=>h0
 |b::l=>h b l (dx h0 h l)
def KL{tD:Nat->α0->Prop}{Of:Nat->α0->List OE}{Gf:Nat->α0->mM}(h0: ∀x0,tD 0 x0->LG E aC c (Of 0 x0) (Gf 0 x0))(h: ∀n,(∀x0,tD n x0->LG E aC c (Of n x0) (Gf n x0))-> ∀x0,tD (n+1) x0->LG E aC c (Of (n+1) x0) (Gf (n+1) x0)): ∀n,∀x0,tD n x0->LG E aC c (Of n x0) (Gf n x0)
 |0=>h0
 |n+1=>h n (KL h0 h n)
def Jy{id:Nat}{tD:α0->Prop}(hK: ∀x0,tD x0->AT E aC .normal (Of x0) (Gf x0))(h:(∀x0,tD x0->AT E aC .normal (Of x0) (Gf x0))->CG E (Exit.inBlock id aC) c O G):CG E aC (.block id c) O G:=ai (h hK)
def ia{x:Code}{tD:α0->Prop}(hK: ∀x0,tD x0->CG E aC y (Of x0) (Gf x0))(h:(∀x0,tD x0->AT E (Exit.then (y.wpIn (fw E.r) 0 E.P aC) aC) .normal (Of x0) (Gf x0))->CG E (Exit.then (y.wpIn (fw E.r) 0 E.P aC) aC) x O G):CG E aC (.seq x y) O G:=aA (h (fun x0=>fun hz=>hK x0 hz))
def QJ{tD:Nat->α0->α1->Prop}{Of:α0->α1->List OE}{Gf:α0->α1->mM}(h0: ∀x0 x1,tD 0 x0 x1->False)(h: ∀n,(∀x0 x1,tD n x0 x1->LG E aC c (Of x0 x1) (Gf x0 x1))-> ∀x0 x1,tD (n+1) x0 x1->LG E aC c (Of x0 x1) (Gf x0 x1)): ∀n,∀x0 x1,tD n x0 x1->LG E aC c (Of x0 x1) (Gf x0 x1)
 |0=>fun x0 x1 hz=>(h0 x0 x1 hz).elim
 |n+1=>h n (QJ h0 h n)
def jX{tD:List β->α0->α1->Prop}{Of:List β->α0->α1->List OE}{Gf:List β->α0->α1->mM}(h0: ∀x0 x1,tD [] x0 x1->LG E aC c (Of [] x0 x1) (Gf [] x0 x1))(h: ∀b l,(∀x0 x1,tD l x0 x1->LG E aC c (Of l x0 x1) (Gf l x0 x1))-> ∀x0 x1,tD (b::l) x0 x1->LG E aC c (Of (b::l) x0 x1) (Gf (b::l) x0 x1)): ∀l,∀x0 x1,tD l x0 x1->LG E aC c (Of l x0 x1) (Gf l x0 x1)
 |[]=>h0
 |b::l=>h b l (jX h0 h l)
def QI{tD:Nat->α0->α1->Prop}{Of:Nat->α0->α1->List OE}{Gf:Nat->α0->α1->mM}(h0: ∀x0 x1,tD 0 x0 x1->LG E aC c (Of 0 x0 x1) (Gf 0 x0 x1))(h: ∀n,(∀x0 x1,tD n x0 x1->LG E aC c (Of n x0 x1) (Gf n x0 x1))-> ∀x0 x1,tD (n+1) x0 x1->LG E aC c (Of (n+1) x0 x1) (Gf (n+1) x0 x1)): ∀n,∀x0 x1,tD n x0 x1->LG E aC c (Of n x0 x1) (Gf n x0 x1)
 |0=>h0
 |n+1=>h n (QI h0 h n)
def xM{x:Code}{tD:α0->α1->Prop}{Of:α0->α1->List OE}{Gf:α0->α1->mM}(hK: ∀x0 x1,tD x0 x1->CG E aC y (Of x0 x1) (Gf x0 x1))(h:(∀x0 x1,tD x0 x1->AT E (Exit.then (y.wpIn (fw E.r) 0 E.P aC) aC) .normal (Of x0 x1) (Gf x0 x1))->CG E (Exit.then (y.wpIn (fw E.r) 0 E.P aC) aC) x O G):CG E aC (.seq x y) O G:=aA (h (fun x0 x1=>fun hz=>hK x0 x1 hz))
def uk{tD:List β->α0->α1->α2->Prop}{Of:List β->α0->α1->α2->List OE}{Gf:List β->α0->α1->α2->mM}(h0: ∀x0 x1 x2,tD [] x0 x1 x2->LG E aC c (Of [] x0 x1 x2) (Gf [] x0 x1 x2))(h: ∀b l,(∀x0 x1 x2,tD l x0 x1 x2->LG E aC c (Of l x0 x1 x2) (Gf l x0 x1 x2))-> ∀x0 x1 x2,tD (b::l) x0 x1 x2->LG E aC c (Of (b::l) x0 x1 x2) (Gf (b::l) x0 x1 x2)): ∀l,∀x0 x1 x2,tD l x0 x1 x2->LG E aC c (Of l x0 x1 x2) (Gf l x0 x1 x2)
 |[]=>h0
 |b::l=>h b l (uk h0 h l)
def QH{tD:Nat->α0->α1->α2->Prop}{Of:Nat->α0->α1->α2->List OE}{Gf:Nat->α0->α1->α2->mM}(h0: ∀x0 x1 x2,tD 0 x0 x1 x2->LG E aC c (Of 0 x0 x1 x2) (Gf 0 x0 x1 x2))(h: ∀n,(∀x0 x1 x2,tD n x0 x1 x2->LG E aC c (Of n x0 x1 x2) (Gf n x0 x1 x2))-> ∀x0 x1 x2,tD (n+1) x0 x1 x2->LG E aC c (Of (n+1) x0 x1 x2) (Gf (n+1) x0 x1 x2)): ∀n,∀x0 x1 x2,tD n x0 x1 x2->LG E aC c (Of n x0 x1 x2) (Gf n x0 x1 x2)
 |0=>h0
 |n+1=>h n (QH h0 h n)
def Si{id:Nat}{tD:α0->α1->α2->Prop}{Of:α0->α1->α2->List OE}{Gf:α0->α1->α2->mM}(hK: ∀x0 x1 x2,tD x0 x1 x2->AT E aC .normal (Of x0 x1 x2) (Gf x0 x1 x2))(h:(∀x0 x1 x2,tD x0 x1 x2->AT E aC .normal (Of x0 x1 x2) (Gf x0 x1 x2))->CG E (Exit.inBlock id aC) c O G):CG E aC (.block id c) O G:=ai (h hK)
def vw{x:Code}{tD:α0->α1->α2->Prop}{Of:α0->α1->α2->List OE}{Gf:α0->α1->α2->mM}(hK: ∀x0 x1 x2,tD x0 x1 x2->CG E aC y (Of x0 x1 x2) (Gf x0 x1 x2))(h:(∀x0 x1 x2,tD x0 x1 x2->AT E (Exit.then (y.wpIn (fw E.r) 0 E.P aC) aC) .normal (Of x0 x1 x2) (Gf x0 x1 x2))->CG E (Exit.then (y.wpIn (fw E.r) 0 E.P aC) aC) x O G):CG E aC (.seq x y) O G:=aA (h (fun x0 x1 x2=>fun hz=>hK x0 x1 x2 hz))
def KM{tD:Nat->α0->α1->α2->α3->Prop}{Of:α0->α1->α2->α3->List OE}{Gf:α0->α1->α2->α3->mM}(h0: ∀x0 x1 x2 x3,tD 0 x0 x1 x2 x3->False)(h: ∀n,(∀x0 x1 x2 x3,tD n x0 x1 x2 x3->LG E aC c (Of x0 x1 x2 x3) (Gf x0 x1 x2 x3))-> ∀x0 x1 x2 x3,tD (n+1) x0 x1 x2 x3->LG E aC c (Of x0 x1 x2 x3) (Gf x0 x1 x2 x3)): ∀n,∀x0 x1 x2 x3,tD n x0 x1 x2 x3->LG E aC c (Of x0 x1 x2 x3) (Gf x0 x1 x2 x3)
 |0=>fun x0 x1 x2 x3 hz=>(h0 x0 x1 x2 x3 hz).elim
 |n+1=>h n (KM h0 h n)
def jC{tD:List β->α0->α1->α2->α3->Prop}{Of:List β->α0->α1->α2->α3->List OE}{Gf:List β->α0->α1->α2->α3->mM}(h0: ∀x0 x1 x2 x3,tD [] x0 x1 x2 x3->LG E aC c (Of [] x0 x1 x2 x3) (Gf [] x0 x1 x2 x3))(h: ∀b l,(∀x0 x1 x2 x3,tD l x0 x1 x2 x3->LG E aC c (Of l x0 x1 x2 x3) (Gf l x0 x1 x2 x3))-> ∀x0 x1 x2 x3,tD (b::l) x0 x1 x2 x3->LG E aC c (Of (b::l) x0 x1 x2 x3) (Gf (b::l) x0 x1 x2 x3)): ∀l,∀x0 x1 x2 x3,tD l x0 x1 x2 x3->LG E aC c (Of l x0 x1 x2 x3) (Gf l x0 x1 x2 x3)
 |[]=>h0
 |b::l=>h b l (jC h0 h l)
def QG{tD:Nat->α0->α1->α2->α3->Prop}{Of:Nat->α0->α1->α2->α3->List OE}{Gf:Nat->α0->α1->α2->α3->mM}(h0: ∀x0 x1 x2 x3,tD 0 x0 x1 x2 x3->LG E aC c (Of 0 x0 x1 x2 x3) (Gf 0 x0 x1 x2 x3))(h: ∀n,(∀x0 x1 x2 x3,tD n x0 x1 x2 x3->LG E aC c (Of n x0 x1 x2 x3) (Gf n x0 x1 x2 x3))-> ∀x0 x1 x2 x3,tD (n+1) x0 x1 x2 x3->LG E aC c (Of (n+1) x0 x1 x2 x3) (Gf (n+1) x0 x1 x2 x3)): ∀n,∀x0 x1 x2 x3,tD n x0 x1 x2 x3->LG E aC c (Of n x0 x1 x2 x3) (Gf n x0 x1 x2 x3)
 |0=>h0
 |n+1=>h n (QG h0 h n)
def Sh{id:Nat}{tD:α0->α1->α2->α3->Prop}{Of:α0->α1->α2->α3->List OE}{Gf:α0->α1->α2->α3->mM}(hK: ∀x0 x1 x2 x3,tD x0 x1 x2 x3->AT E aC .normal (Of x0 x1 x2 x3) (Gf x0 x1 x2 x3))(h:(∀x0 x1 x2 x3,tD x0 x1 x2 x3->AT E aC .normal (Of x0 x1 x2 x3) (Gf x0 x1 x2 x3))->CG E (Exit.inBlock id aC) c O G):CG E aC (.block id c) O G:=ai (h hK)
def Dy{tD:List β->α0->α1->α2->α3->α4->Prop}{Of:List β->α0->α1->α2->α3->α4->List OE}{Gf:List β->α0->α1->α2->α3->α4->mM}(h0: ∀x0 x1 x2 x3 x4,tD [] x0 x1 x2 x3 x4->LG E aC c (Of [] x0 x1 x2 x3 x4) (Gf [] x0 x1 x2 x3 x4))(h: ∀b l,(∀x0 x1 x2 x3 x4,tD l x0 x1 x2 x3 x4->LG E aC c (Of l x0 x1 x2 x3 x4) (Gf l x0 x1 x2 x3 x4))-> ∀x0 x1 x2 x3 x4,tD (b::l) x0 x1 x2 x3 x4->LG E aC c (Of (b::l) x0 x1 x2 x3 x4) (Gf (b::l) x0 x1 x2 x3 x4)): ∀l,∀x0 x1 x2 x3 x4,tD l x0 x1 x2 x3 x4->LG E aC c (Of l x0 x1 x2 x3 x4) (Gf l x0 x1 x2 x3 x4)
 |[]=>h0
 |b::l=>h b l (Dy h0 h l)
def Sg{id:Nat}{tD:α0->α1->α2->α3->α4->α5->Prop}{Of:α0->α1->α2->α3->α4->α5->List OE}{Gf:α0->α1->α2->α3->α4->α5->mM}(hK: ∀x0 x1 x2 x3 x4 x5,tD x0 x1 x2 x3 x4 x5->AT E aC .normal (Of x0 x1 x2 x3 x4 x5) (Gf x0 x1 x2 x3 x4 x5))(h:(∀x0 x1 x2 x3 x4 x5,tD x0 x1 x2 x3 x4 x5->AT E aC .normal (Of x0 x1 x2 x3 x4 x5) (Gf x0 x1 x2 x3 x4 x5))->CG E (Exit.inBlock id aC) c O G):CG E aC (.block id c) O G:=ai (h hK)
def Se{x:Code}{tD:α0->α1->α2->α3->α4->α5->Prop}{Of:α0->α1->α2->α3->α4->α5->List OE}{Gf:α0->α1->α2->α3->α4->α5->mM}(hK: ∀x0 x1 x2 x3 x4 x5,tD x0 x1 x2 x3 x4 x5->CG E aC y (Of x0 x1 x2 x3 x4 x5) (Gf x0 x1 x2 x3 x4 x5))(h:(∀x0 x1 x2 x3 x4 x5,tD x0 x1 x2 x3 x4 x5->AT E (Exit.then (y.wpIn (fw E.r) 0 E.P aC) aC) .normal (Of x0 x1 x2 x3 x4 x5) (Gf x0 x1 x2 x3 x4 x5))->CG E (Exit.then (y.wpIn (fw E.r) 0 E.P aC) aC) x O G):CG E aC (.seq x y) O G:=aA (h (fun x0 x1 x2 x3 x4 x5=>fun hz=>hK x0 x1 x2 x3 x4 x5 hz))
def Ah{tD:List β->α0->α1->α2->α3->α4->α5->α6->Prop}{Of:List β->α0->α1->α2->α3->α4->α5->α6->List OE}{Gf:List β->α0->α1->α2->α3->α4->α5->α6->mM}(h0: ∀x0 x1 x2 x3 x4 x5 x6,tD [] x0 x1 x2 x3 x4 x5 x6->LG E aC c (Of [] x0 x1 x2 x3 x4 x5 x6) (Gf [] x0 x1 x2 x3 x4 x5 x6))(h: ∀b l,(∀x0 x1 x2 x3 x4 x5 x6,tD l x0 x1 x2 x3 x4 x5 x6->LG E aC c (Of l x0 x1 x2 x3 x4 x5 x6) (Gf l x0 x1 x2 x3 x4 x5 x6))-> ∀x0 x1 x2 x3 x4 x5 x6,tD (b::l) x0 x1 x2 x3 x4 x5 x6->LG E aC c (Of (b::l) x0 x1 x2 x3 x4 x5 x6) (Gf (b::l) x0 x1 x2 x3 x4 x5 x6)): ∀l,∀x0 x1 x2 x3 x4 x5 x6,tD l x0 x1 x2 x3 x4 x5 x6->LG E aC c (Of l x0 x1 x2 x3 x4 x5 x6) (Gf l x0 x1 x2 x3 x4 x5 x6)
 |[]=>h0
 |b::l=>h b l (Ah h0 h l)
def QF{tD:Nat->α0->α1->α2->α3->α4->α5->α6->Prop}{Of:Nat->α0->α1->α2->α3->α4->α5->α6->List OE}{Gf:Nat->α0->α1->α2->α3->α4->α5->α6->mM}(h0: ∀x0 x1 x2 x3 x4 x5 x6,tD 0 x0 x1 x2 x3 x4 x5 x6->LG E aC c (Of 0 x0 x1 x2 x3 x4 x5 x6) (Gf 0 x0 x1 x2 x3 x4 x5 x6))(h: ∀n,(∀x0 x1 x2 x3 x4 x5 x6,tD n x0 x1 x2 x3 x4 x5 x6->LG E aC c (Of n x0 x1 x2 x3 x4 x5 x6) (Gf n x0 x1 x2 x3 x4 x5 x6))-> ∀x0 x1 x2 x3 x4 x5 x6,tD (n+1) x0 x1 x2 x3 x4 x5 x6->LG E aC c (Of (n+1) x0 x1 x2 x3 x4 x5 x6) (Gf (n+1) x0 x1 x2 x3 x4 x5 x6)): ∀n,∀x0 x1 x2 x3 x4 x5 x6,tD n x0 x1 x2 x3 x4 x5 x6->LG E aC c (Of n x0 x1 x2 x3 x4 x5 x6) (Gf n x0 x1 x2 x3 x4 x5 x6)
 |0=>h0
 |n+1=>h n (QF h0 h n)
def Sd{x:Code}{tD:α0->α1->α2->α3->α4->α5->α6->α7->Prop}{Of:α0->α1->α2->α3->α4->α5->α6->α7->List OE}{Gf:α0->α1->α2->α3->α4->α5->α6->α7->mM}(hK: ∀x0 x1 x2 x3 x4 x5 x6 x7,tD x0 x1 x2 x3 x4 x5 x6 x7->CG E aC y (Of x0 x1 x2 x3 x4 x5 x6 x7) (Gf x0 x1 x2 x3 x4 x5 x6 x7))(h:(∀x0 x1 x2 x3 x4 x5 x6 x7,tD x0 x1 x2 x3 x4 x5 x6 x7->AT E (Exit.then (y.wpIn (fw E.r) 0 E.P aC) aC) .normal (Of x0 x1 x2 x3 x4 x5 x6 x7) (Gf x0 x1 x2 x3 x4 x5 x6 x7))->CG E (Exit.then (y.wpIn (fw E.r) 0 E.P aC) aC) x O G):CG E aC (.seq x y) O G:=aA (h (fun x0 x1 x2 x3 x4 x5 x6 x7=>fun hz=>hK x0 x1 x2 x3 x4 x5 x6 x7 hz))
def HQ{tD:List β->α0->α1->α2->α3->α4->α5->α6->α7->α8->Prop}{Of:List β->α0->α1->α2->α3->α4->α5->α6->α7->α8->List OE}{Gf:List β->α0->α1->α2->α3->α4->α5->α6->α7->α8->mM}(h0: ∀x0 x1 x2 x3 x4 x5 x6 x7 x8,tD [] x0 x1 x2 x3 x4 x5 x6 x7 x8->LG E aC c (Of [] x0 x1 x2 x3 x4 x5 x6 x7 x8) (Gf [] x0 x1 x2 x3 x4 x5 x6 x7 x8))(h: ∀b l,(∀x0 x1 x2 x3 x4 x5 x6 x7 x8,tD l x0 x1 x2 x3 x4 x5 x6 x7 x8->LG E aC c (Of l x0 x1 x2 x3 x4 x5 x6 x7 x8) (Gf l x0 x1 x2 x3 x4 x5 x6 x7 x8))-> ∀x0 x1 x2 x3 x4 x5 x6 x7 x8,tD (b::l) x0 x1 x2 x3 x4 x5 x6 x7 x8->LG E aC c (Of (b::l) x0 x1 x2 x3 x4 x5 x6 x7 x8) (Gf (b::l) x0 x1 x2 x3 x4 x5 x6 x7 x8)): ∀l,∀x0 x1 x2 x3 x4 x5 x6 x7 x8,tD l x0 x1 x2 x3 x4 x5 x6 x7 x8->LG E aC c (Of l x0 x1 x2 x3 x4 x5 x6 x7 x8) (Gf l x0 x1 x2 x3 x4 x5 x6 x7 x8)
 |[]=>h0
 |b::l=>h b l (HQ h0 h l)
def yI{x:Code}{tD:α0->α1->α2->α3->α4->α5->α6->α7->α8->α9->α10->α11->α12->Prop}{Of:α0->α1->α2->α3->α4->α5->α6->α7->α8->α9->α10->α11->α12->List OE}{Gf:α0->α1->α2->α3->α4->α5->α6->α7->α8->α9->α10->α11->α12->mM}(hK: ∀x0 x1 x2 x3 x4 x5 x6 x7 x8 x9 x10 x11 x12,tD x0 x1 x2 x3 x4 x5 x6 x7 x8 x9 x10 x11 x12->CG E aC y (Of x0 x1 x2 x3 x4 x5 x6 x7 x8 x9 x10 x11 x12) (Gf x0 x1 x2 x3 x4 x5 x6 x7 x8 x9 x10 x11 x12))(h:(∀x0 x1 x2 x3 x4 x5 x6 x7 x8 x9 x10 x11 x12,tD x0 x1 x2 x3 x4 x5 x6 x7 x8 x9 x10 x11 x12->AT E (Exit.then (y.wpIn (fw E.r) 0 E.P aC) aC) .normal (Of x0 x1 x2 x3 x4 x5 x6 x7 x8 x9 x10 x11 x12) (Gf x0 x1 x2 x3 x4 x5 x6 x7 x8 x9 x10 x11 x12))->CG E (Exit.then (y.wpIn (fw E.r) 0 E.P aC) aC) x O G):CG E aC (.seq x y) O G:=aA (h (fun x0 x1 x2 x3 x4 x5 x6 x7 x8 x9 x10 x11 x12=>fun hz=>hK x0 x1 x2 x3 x4 x5 x6 x7 x8 x9 x10 x11 x12 hz))
def xL{α13:Type}{tD:List β->α0->α1->α2->α3->α4->α5->α6->α7->α8->α9->α10->α11->α12->α13->Prop}{Of:List β->α0->α1->α2->α3->α4->α5->α6->α7->α8->α9->α10->α11->α12->α13->List OE}{Gf:List β->α0->α1->α2->α3->α4->α5->α6->α7->α8->α9->α10->α11->α12->α13->mM}(h0: ∀x0 x1 x2 x3 x4 x5 x6 x7 x8 x9 x10 x11 x12 x13,tD [] x0 x1 x2 x3 x4 x5 x6 x7 x8 x9 x10 x11 x12 x13->LG E aC c (Of [] x0 x1 x2 x3 x4 x5 x6 x7 x8 x9 x10 x11 x12 x13) (Gf [] x0 x1 x2 x3 x4 x5 x6 x7 x8 x9 x10 x11 x12 x13))(h: ∀b l,(∀x0 x1 x2 x3 x4 x5 x6 x7 x8 x9 x10 x11 x12 x13,tD l x0 x1 x2 x3 x4 x5 x6 x7 x8 x9 x10 x11 x12 x13->LG E aC c (Of l x0 x1 x2 x3 x4 x5 x6 x7 x8 x9 x10 x11 x12 x13) (Gf l x0 x1 x2 x3 x4 x5 x6 x7 x8 x9 x10 x11 x12 x13))-> ∀x0 x1 x2 x3 x4 x5 x6 x7 x8 x9 x10 x11 x12 x13,tD (b::l) x0 x1 x2 x3 x4 x5 x6 x7 x8 x9 x10 x11 x12 x13->LG E aC c (Of (b::l) x0 x1 x2 x3 x4 x5 x6 x7 x8 x9 x10 x11 x12 x13) (Gf (b::l) x0 x1 x2 x3 x4 x5 x6 x7 x8 x9 x10 x11 x12 x13)): ∀l,∀x0 x1 x2 x3 x4 x5 x6 x7 x8 x9 x10 x11 x12 x13,tD l x0 x1 x2 x3 x4 x5 x6 x7 x8 x9 x10 x11 x12 x13->LG E aC c (Of l x0 x1 x2 x3 x4 x5 x6 x7 x8 x9 x10 x11 x12 x13) (Gf l x0 x1 x2 x3 x4 x5 x6 x7 x8 x9 x10 x11 x12 x13)
 |[]=>h0
 |b::l=>h b l (xL h0 h l)
def Cl{x:Code}{α13 α14:Type}{tD:α0->α1->α2->α3->α4->α5->α6->α7->α8->α9->α10->α11->α12->α13->α14->Prop}{Of:α0->α1->α2->α3->α4->α5->α6->α7->α8->α9->α10->α11->α12->α13->α14->List OE}{Gf:α0->α1->α2->α3->α4->α5->α6->α7->α8->α9->α10->α11->α12->α13->α14->mM}(hK: ∀x0 x1 x2 x3 x4 x5 x6 x7 x8 x9 x10 x11 x12 x13 x14,tD x0 x1 x2 x3 x4 x5 x6 x7 x8 x9 x10 x11 x12 x13 x14->CG E aC y (Of x0 x1 x2 x3 x4 x5 x6 x7 x8 x9 x10 x11 x12 x13 x14) (Gf x0 x1 x2 x3 x4 x5 x6 x7 x8 x9 x10 x11 x12 x13 x14))(h:(∀x0 x1 x2 x3 x4 x5 x6 x7 x8 x9 x10 x11 x12 x13 x14,tD x0 x1 x2 x3 x4 x5 x6 x7 x8 x9 x10 x11 x12 x13 x14->AT E (Exit.then (y.wpIn (fw E.r) 0 E.P aC) aC) .normal (Of x0 x1 x2 x3 x4 x5 x6 x7 x8 x9 x10 x11 x12 x13 x14) (Gf x0 x1 x2 x3 x4 x5 x6 x7 x8 x9 x10 x11 x12 x13 x14))->CG E (Exit.then (y.wpIn (fw E.r) 0 E.P aC) aC) x O G):CG E aC (.seq x y) O G:=aA (h (fun x0 x1 x2 x3 x4 x5 x6 x7 x8 x9 x10 x11 x12 x13 x14=>fun hz=>hK x0 x1 x2 x3 x4 x5 x6 x7 x8 x9 x10 x11 x12 x13 x14 hz))
end
def bs{α:Type _}{β:Type _}{x:Option α}{k:α->Option β}{r:β}(h:x.bind k=some r): ∃y,x=some y/\k y=some r:=by
 cases x with
 |none=>cases h
 |some y=>exact⟨y,rfl,h⟩
def ct{β:Type _}{x y:Option β}{r:β}(h:(if b=true then x else y)=some r)(A:b=true):x=some r:=by rwa [cx A]at h
def cf{β:Type _}{x y:Option β}{r:β}(h:(if b=true then x else y)=some r)(A:b=false):y=some r:=by rwa [cm (by rw [A];decide)]at h
def so{β:Type _}{x r:β}(h:some x=some r):x=r:=by simpa using h
def og [Inhabited α]{x:Option α}{k:α->Option β}{ah:Option β}{r:β}(h:(if b=true then x.bind k else ah)=some r): ∃y,(b=true->x=some y/\k y=some r)/\(b=false->ah=some r):=by
 cases b with
 |true=>obtain⟨y,H,J⟩:=bs (ct h rfl);exact⟨y,fun _=>⟨H,J⟩,fun e=>(by cases e)⟩
 |false=>exact⟨default,fun e=>(by cases e),fun _=>cf h rfl⟩

def cn{α β:Type}(p:Rp α)(q:Rp β):Rp (α×β) where
 sz:=p.sz+q.sz
 agg:=true
 rc:=fun S cs x=> ∃a b,cs=a++b/\p.rc S a x.1/\q.rc S b x.2
 mono:=fun h ⟨a,b,e,H,J⟩=>⟨a,b,e,p.mono h H,q.mono h J⟩
 len:=fun⟨a,b,e,H,J⟩=>by rw [e,pg,p.len H,q.len J]
 one:=fun⟨a,b,e,H,J⟩ c hc=>by
  rw [e]at hc
  rcases Bv.1 hc with h|h
  ·exact p.one H c h
  ·exact q.one J c h
 sc:=fun h=>by cases h
def kg{α β:Type}(p:Rp α)(f:β->α):Rp β where
 sz:=p.sz
 agg:=true
 rc:=fun S cs x=>p.rc S cs (f x)
 mono:=fun h k=>p.mono h k
 len:=fun h=>p.len h
 one:=fun h=>p.one h
 sc:=fun h=>by cases h
def bK{p:Rp α}{f:β->α}:jj (kg p f) 0 p f:=fun S cs x h=>by
 have h' :p.rc S cs (f x):=h
 have hl:=p.len h'
 rw [sF,<-hl,A3];exact h'
def cB{γ:Type}{p:Rp α}{q:Rp β}{r:Rp γ}{get:γ->α×β}(h:jj r off (cn p q) get):jj r off p (fun x=>(get x).1):=fun S cs x k=>by
 obtain⟨a,b,e,H,J⟩:=h S cs x k
 have hl:=p.len H
 have hl2:=q.len J
 have:(cs.drop off).take p.sz=a:=by
  have e2:=congrArg (List.take p.sz) e
  rw [yL,Co (by show p.sz<=p.sz+q.sz;omega),<-hl,List.take_left]at e2
  rw [<-hl];exact e2
 rw [this];exact H
def aG{γ:Type}{p:Rp α}{q:Rp β}{r:Rp γ}{off' :Nat}{get:γ->α×β}(h:jj r off (cn p q) get)(ho:off' =off+p.sz):jj r off' q (fun x=>(get x).2):=fun S cs x k=>by
 obtain⟨a,b,e,H,J⟩:=h S cs x k
 have hl:=p.len H
 have hl2:=q.len J
 have:(cs.drop off').take q.sz=b:=by
  have e2:=congrArg (List.drop p.sz) e
  rw [Cs,xR,<-hl,List.drop_left]at e2
  rw [ho,<-hl,<-e2]
  congr 1
  show q.sz=p.sz+q.sz-a.length
  omega
 rw [this];exact J

section
variable{E:En}
def WN{op:Op}{ty:TypeId}(hj:(ops[j]?).bind (·.dst)=some gs)(hgs:Nat.blt gs E.N.n=true)(V:look G gs=some (Z rB b))(hd:Nat.blt ah E.N.n=true)(h:b=true->cH E O G ⟨some ah,op,ty,pos,after,some (j,true)⟩ t)(k:RG E ops aC rest O ((ah,qj b t)::G)):RG E ops aC (⟨some ah,op,ty,pos,after,some (j,true)⟩::rest) O G:=by
 have e:(true&&(b==true))=b:=by cases b<;>rfl
 exact KI hj hgs (wH V) hd (by rw [e];exact h) (by rw [e];exact k)
def WO{op:Op}{ty:TypeId}(hj:(ops[j]?).bind (·.dst)=some gs)(hgs:Nat.blt gs E.N.n=true)(V:look G gs=some (Z rB b))(hd:Nat.blt ah E.N.n=true)(h:(!b)=true->cH E O G ⟨some ah,op,ty,pos,after,some (j,false)⟩ t)(k:RG E ops aC rest O ((ah,qj (!b) t)::G)):RG E ops aC (⟨some ah,op,ty,pos,after,some (j,false)⟩::rest) O G:=by
 have e:(true&&(b==false))= !b:=by cases b<;>rfl
 exact KI hj hgs (wH V) hd (by rw [e];exact h) (by rw [e];exact k)
def em{c:Bool}{op:Op}{ty:TypeId}(hj:(ops[j]?).bind (·.dst)=some gs)(hgs:Nat.blt gs E.N.n=true)(V:look G gs=some (qj c (Z rB b)))(hd:Nat.blt ah E.N.n=true)(h:(c&&b)=true->cH E O G ⟨some ah,op,ty,pos,after,some (j,true)⟩ t)(k:RG E ops aC rest O ((ah,qj (c&&b) t)::G)):RG E ops aC (⟨some ah,op,ty,pos,after,some (j,true)⟩::rest) O G:=by
 have e:(c&&(b==true))=(c&&b):=by cases b<;>rfl
 exact KI hj hgs (D8 V) hd (by rw [e];exact h) (by rw [e];exact k)
def fk{c:Bool}{op:Op}{ty:TypeId}(hj:(ops[j]?).bind (·.dst)=some gs)(hgs:Nat.blt gs E.N.n=true)(V:look G gs=some (qj c (Z rB b)))(hd:Nat.blt ah E.N.n=true)(h:(c&& !b)=true->cH E O G ⟨some ah,op,ty,pos,after,some (j,false)⟩ t)(k:RG E ops aC rest O ((ah,qj (c&& !b) t)::G)):RG E ops aC (⟨some ah,op,ty,pos,after,some (j,false)⟩::rest) O G:=by
 have e:(c&&(b==false))=(c&& !b):=by cases b<;>rfl
 exact KI hj hgs (D8 V) hd (by rw [e];exact h) (by rw [e];exact k)
def kZ{l:List Oper}{need:mM}(V:o.guard=some (j,true))(hj:((l.toArray)[j]?).bind (·.dst)=some gs)(hgs:Nat.blt gs E.N.n=true)(A:look need gs=some (Z rB b))(h:b=true->cH E O need o t):bg E O l.toArray need o (qj b t):=by
 have e:(true&&(b==true))=b:=by cases b<;>rfl
 have:=Ag (t:=t) V hj hgs (wH (E:=E) A) (by rw [e];exact h)
 rwa [e]at this
def cI{l:List Oper}{need:mM}(V:o.guard=some (j,false))(hj:((l.toArray)[j]?).bind (·.dst)=some gs)(hgs:Nat.blt gs E.N.n=true)(A:look need gs=some (Z rB b))(h:(!b)=true->cH E O need o t):bg E O l.toArray need o (qj (!b) t):=by
 have e:(true&&(b==false))= !b:=by cases b<;>rfl
 have:=Ag (t:=t) V hj hgs (wH (E:=E) A) (by rw [e];exact h)
 rwa [e]at this
def qX{l:List Oper}{need:mM}{c:Bool}(V:o.guard=some (j,true))(hj:((l.toArray)[j]?).bind (·.dst)=some gs)(hgs:Nat.blt gs E.N.n=true)(A:look need gs=some (qj c (Z rB b)))(h:(c&&b)=true->cH E O need o t):bg E O l.toArray need o (qj (c&&b) t):=by
 have e:(c&&(b==true))=(c&&b):=by cases b<;>rfl
 have:=Ag (t:=t) V hj hgs (D8 (E:=E) A) (by rw [e];exact h)
 rwa [e]at this
def sr{a:Bool}(h:a=true)(k:b=true):(a&&b)=true:=by rw [h,k];rfl
def mD{a:Bool}(h:a=false):(!a)=true:=by rw [h];rfl
def qL{c:Operand}{x:Code}(A:bk E.N G c (Z rB b))(h:b=true)(D:CG E aC x O G):CG E aC (.cond c x y) O G:=FN A (fun _=>D) (fun e=>by rw [h]at e;cases e)
def qM{c:Operand}{x:Code}(A:bk E.N G c (Z rB b))(h:b=false)(hy:CG E aC y O G):CG E aC (.cond c x y) O G:=FN A (fun e=>by rw [h]at e;cases e) (fun _=>hy)
end
def Sk [Inhabited α]{x:Option α}{k:α->Option β}{r:β}(h:b=true->x.bind k=some r): ∃y,b=true->x=some y/\k y=some r:=by
 cases b with
 |true=>obtain⟨y,H,J⟩:=bs (h rfl);exact⟨y,fun _=>⟨H,J⟩⟩
 |false=>exact⟨default,fun e=>(by cases e)⟩
section
variable{E:En}{ty:TypeId}
def jr{c:Operand}(hc:bk E.N G c (Z rB b))(D:b=true->bk E.N G x (Z rB q)):cH E O G ⟨dst,.pick c x (.const (.bool false)),ty,pos,after,g⟩ (Z rB (b&&q)):=by
 refine Fw hc (fun h=>?_) (fun h=>?_)
 ·subst h;exact D rfl
 ·subst h;exact hB
def D3{c:Operand}(hc:bk E.N G c (Z rB b))(D:b=false->bk E.N G x (Z rB q)):cH E O G ⟨dst,.pick c (.const (.bool true)) x,ty,pos,after,g⟩ (Z rB (b||q)):=by
 refine Fw hc (fun h=>?_) (fun h=>?_)
 ·subst h;exact hB
 ·subst h;exact D rfl
def co{c:Operand}{t:Bool}(hc:bk E.N G c (Z rB b))(D:b=true->bk E.N G x (Z rB q))(e1:b=true->some q=some t)(e0:b=false->some false=some t):cH E O G ⟨dst,.pick c x (.const (.bool false)),ty,pos,after,g⟩ (Z rB t):=by
 refine Fw hc (fun h=>?_) (fun h=>?_)
 ·rw [<-so (e1 h)];exact D h
 ·rw [<-so (e0 h)];exact hB
def cD{c:Operand}{t:Bool}(hc:bk E.N G c (Z rB b))(D:b=false->bk E.N G x (Z rB q))(e1:(!b)=true->some q=some t)(e0:(!b)=false->some true=some t):cH E O G ⟨dst,.pick c (.const (.bool true)) x,ty,pos,after,g⟩ (Z rB t):=by
 refine Fw hc (fun h=>?_) (fun h=>?_)
 ·rw [<-so (e0 (by rw [h];rfl))];exact hB
 ·rw [<-so (e1 (by rw [h];rfl))];exact D h
def GO(hi:ts[i]? =some t)(D:bk E.N G x (tT ts)):cH E O G ⟨dst,.extract x i,ty,pos,after,g⟩ t:=
 .of_pure fun a w S _ _ hf=>by
  obtain⟨vs,H,J⟩:=D S a hf
  obtain⟨v,h3,h4⟩:=J.at_ i t hi
  exact⟨v,by simp [execOp,H,Instr.extract,h3],h4⟩
def Fx{y:Operand}{k:IntKind}{m n:Int}(D:bk E.N G x (Z (rI k) m))(hy:bk E.N G y (Z (rI k) n)):cH E O G ⟨dst,.call ⟨.builtin .max,#[x,y],ats⟩,ty,pos,after,g⟩ (Z (rI k) (max m n)):=
 .of_pure fun a w S _ _ hf=>by
  have H:a.eval x= .int k m:=f8.1 (D S a hf)
  have J:a.eval y= .int k n:=f8.1 (hy S a hf)
  refine⟨.int k (if n>m then n else m),by simp [execOp,resolve,invoke,builtin,Builtin.max_,Builtin.max2,H,J],f8.2 ?_⟩
  congr 1
  rw [Int.max_def]
  split<;>split<;>omega
def o3{y:Operand}{k:IntKind}{m n:Int}(D:bk E.N G x (Z (rI k) m))(hy:bk E.N G y (Z (rI k) n)):cH E O G ⟨dst,.call ⟨.builtin .min,#[x,y],ats⟩,ty,pos,after,g⟩ (Z (rI k) (min m n)):=
 .of_pure fun a w S _ _ hf=>by
  have H:a.eval x= .int k m:=f8.1 (D S a hf)
  have J:a.eval y= .int k n:=f8.1 (hy S a hf)
  refine⟨.int k (if n<m then n else m),by simp [execOp,resolve,invoke,builtin,Builtin.min_,Builtin.min2,H,J],f8.2 ?_⟩
  congr 1
  rw [Int.min_def]
  split<;>split<;>omega

def jT(P:Program){α β:Type}(args:α->List Ty)(res:β->Ty)(f:α->Option β):Ty where
 p:=fun S v=> ∃fid cap,v= .func (.func fid) #[] cap/\ak P fid=true/\ ∀x y,f x=some y-> ∀w S' vs,su S S' ->mU w S' ->AZ S' (args x) vs->
  Calls P fid (vs.toArray++cap) w fun e w' => ∃v S'',e= .returned v/\lq wC w S' w' S'' /\mU w' S'' /\(res y).p S'' v
 mono:=fun h ⟨f,cap,e,hc,k⟩=>⟨f,cap,e,hc,fun x y hxy w S' vs hle=>k x y hxy w S' vs (SH.le_trans h hle)⟩
def Yl{N:Fr}{P:Program}{f:α->Option β}{fid:FuncId}(hc:ak P fid=true)(hs: ∀x y,f x=some y->cN P fid (args x) (res y)):bk N G (.func fid) (jT P args res f):=fun S a _=>
 ⟨fid,#[],rfl,hc,fun x y h w S' vs _ hsat hv=>by simpa using hs x y h w S' vs hsat hv⟩
def AZ.append: ∀{ts us:List Ty} {vs ws:List Value},AZ S ts vs->AZ S us ws->AZ S (ts++us) (vs++ws)
 |[],_,[],_,_,h=>h
 |_::_,_,_::_,_,⟨H,J⟩,h=>⟨H,AZ.append J h⟩
def rs{f:α->Option β}{fid:FuncId}{caps:List Operand}{cts:List Ty}(hc:ak E.P fid=true)(hcap:kD E.N G caps cts)(hs: ∀x y,f x=some y->cN E.P fid (args x++cts) (res y)):cH E O G ⟨dst,.makeFunc (.func fid) #[] caps.toArray,ty,pos,after,g⟩ (jT E.P args res f):=
 .of_pure fun a w S _ _ hf=>by
  refine⟨.func (.func fid) #[] (caps.map a.eval).toArray,by simp [execOp,Instr.makeFunc],fid,_,rfl,hc,fun x y h w' S' vs hle hsat hv=>?_⟩
  have hcv:=(hcap.tys hf).mono hle
  simpa using hs x y h w' S' _ hsat (hv.append hcv)
def ku{f:α->Option β}{fo:Operand}{x:α}{y:β}{xs:List Operand}(hfo:bk E.N G fo (jT E.P args res f))(h:f x=some y)(D:kD E.N G xs (args x)):
  cH E O G ⟨dst,.call ⟨.value fo,xs.toArray,ats⟩,ty,pos,after,g⟩ (res y):=fun a w S hS _ hF=>by
 obtain⟨fid,cap,e,hc,hs⟩:=hfo S a hF
 have hr:(execOp a.eval ⟨dst,.call ⟨.value fo,xs.toArray,ats⟩,ty,pos,after,g⟩).run E.P w= .ok (.enter fid ((xs.map a.eval).toArray++cap)) w:=by
  simp [execOp,resolve,e,Deferred.ofValue,invoke,kf hc]
 refine⟨fun c h=>(by cases h),?_⟩
 rw [hr]
 exact(hs x y h w S _ (SH.le_refl _) hS (D.tys hF)).mono fun e w' ⟨v,S',he,H,J,h3⟩=>⟨v,he,v,S',rfl,H,J,h3⟩
end
def cN.of{P:Program}{N:Nat}(hf:P.funcs[f]? =some fn)(A:fn.body=some c)(hN:fn.ntmps=N)(hn:Nat.ble ts.length N=true)(h: ∀w0 S0,CG ⟨P,⟨N,[]⟩,wC,w0,S0,none⟩ (bodyPost P fn (Oo ⟨P,⟨N,[]⟩,wC,w0,S0,none⟩ t)) c [] (Bk 0 ts)):cN P f ts t:=by
 subst hN
 exact KH hf A (uq hn) h
def nn{α:Type _}{r:α}(h:(none:Option α)=some r):False:=by cases h
def zf{N:Fr}:bk N G (.const (.slice none 0 0)) (tV (Y none 0 0)):=fun _ _ _=>rfl
def fc:Nat:=2^64
section
variable{E:En}{ty:TypeId}
def NM(l:Option Nat)(cap n:Nat)(h:l=none->n=0): ∃a c,Y l cap n= .slice a n c:=by
 cases l with
 |none=>rw [h rfl];exact⟨none,0,rfl⟩
 |some b=>exact⟨_,cap,rfl⟩
def ip{r:Rp α}{n:Nat}{t:TypeId}(M:E.P.underlying t=some (.slice e))(hm:mh mm r T l cap xs∈O)(D:bk E.N G x (tV (Y l cap n)))(hn:n=xs.length:=by rfl):
  cH E O G ⟨dst,.call ⟨.builtin .len,#[x],#[t]⟩,ty,pos,after,g⟩ (Z (rI .i64) (n:Int)):=
 .of_pure fun a w S _ ho hf=>by
  have H:a.eval x=Y l cap n:=D S a hf
  have J:=(ho.mem _ hm).1
  obtain⟨ad,c,h3⟩:=NM l cap n (fun e=>by subst e;obtain⟨_,h4,_⟩:=J;rw [hn];exact h4.1)
  refine⟨.int .i64 n,?_,f8.2 rfl⟩
  simp [execOp,resolve,invoke,builtin,Builtin.len_,jZ M,H,h3,goInt]
end
end Go.Proofs.YthbdkceckjihgaaGreatDoor

