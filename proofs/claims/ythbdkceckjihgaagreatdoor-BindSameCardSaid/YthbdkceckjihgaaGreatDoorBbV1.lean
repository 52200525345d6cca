/- du of this claim: W1, W49, W2, W3, W4, W5, W6, W7, W8, W9, W10. -/
import Derived.WalkKit
import Derived.Orders
import Derived.Shelf.Unicode.CaseTo
import Derived.Shelf.Unicode.DecodeSlow
import Derived.Lone
import Derived.RunT
import Derived.Calls
import Derived.RangeFuncIn
import Derived.TacticsIn
import Derived.OrdersIn
import Derived.LoopIn
import Derived.Laws.AppendOwn
import Derived.Deep.Upon
import Derived.Lib.AppendStr
import Derived.IntWalk
set_option linter.all false
namespace Go.Proofs.YthbdkceckjihgaaGreatDoor
open Go
def bH:= @Option.bind_some
def cr:= @if_neg
def cz:= @if_pos
def gc:= @Nat.le_refl
def oD:= @List.mem_cons_of_mem
def oa:= @List.mem_cons_self
def nE:= @decide_eq_true_eq
def ui:= @List.getElem?_eq_some_iff
def pF:= @List.length_append
def gK:= @List.append_assoc
def lP:= @List.getElem?_eq_getElem
def jR:= @Bool.and_eq_true
def gw:= @List.mem_cons
def jm:= @List.length_cons
def lu:= @Bool.false_eq_true
def ka:= @run_underlying
def qM:= @decide_eq_false_iff_not
def sG:= @List.drop_eq_getElem_cons
def rp:= @List.drop_of_length_le
def qL:= @Nat.eq_of_beq_eq_true
def rt:= @List.take_of_length_le
def jW:= @Nat.zero_le
def pG:= @List.all_eq_true
def ul:= @Nat.le_of_ble_eq_true
def uH:= @List.take_append_drop
def uk:= @List.mem_of_getElem?
def xI:= @List.getElem?_append_right
def zb:= @List.take_append_of_le_length
def za:= @List.eq_nil_of_length_eq_zero
def qg:= @List.nil_append
def ro:= @Option.some.inj
def jQ:= @if_false
def oc:= @Nat.le_trans
def oE:= @Nat.lt_or_ge
def tJ:= @Result.andThen_ok
def jo:= @if_true
def rr:= @decide_eq_true
def sD:= @List.length_nil
def Bq:= @Array.getElem?_eq_some_iff
def rn:= @Bool.not_true
def sC:= @List.drop_zero
def uj:= @decide_eq_false
def Bp:= @Array.getElem?_replicate
def y9:= @List.length_singleton
def tI:= @List.all_cons
def sq:= @Sem.run_bind
def yX:= @List.getElem?_drop
def sB:= @Nat.zero_add
def Dw:= @List.getElem?_take_of_lt
def uG:= @List.map_cons
def E0:= @List.getElem?_append_left
def Bo:= @Nat.mul_le_mul_right
def wZ:= @Bool.eq_iff_iff
def yU:= @List.cons_append
def wK:= @Bool.true_and
def AI:= @Bool.not_eq_true'
def Bn:= @List.mem_singleton
def xH:= @List.drop_drop
def AG:= @decide_eq_decide
def y7:= @Bool.or_eq_true
def Ch:= @Stepped.next.injEq
def Bl:= @IntKind.wrap_i64
def Bk:= @List.length_take
def Bj:= @List.mem_append
def MF:= @List.take_succ_eq_append_getElem
def KC:= @Array.getD_eq_getD_getElem?
def Cf:= @Nat.min_eq_left
def Ce:= @List.append_nil
def xG:= @Prod.mk.inj
def Dv:= @Bool.not_eq_true
def AF:= @getD_set_true
def ME:= @List.drop_append_of_le_length
def HV:= @List.mem_append_left
def Cd:= @Bool.not_false
def Bi:= @Bool.false_or
def EZ:= @List.any_eq_true
def HU:= @Array.length_toList
def Ju:= @List.singleton_append
def AE:= @Nat.add_mul
def KB:= @MapKept.run_getObj_map
def tL:= @bne_iff_ne
def tK:= @Nat.blt_eq
def w7:= @List.any_cons
def vX:= @List.mem_map
def yD:= @List.take_take
def AV:= @beq_self_eq_true
def EE:= @Bool.and_eq_true_iff
def ED:= @Bool.or_eq_false_iff
def AU:= @List.take_length
def Cn:= @Option.some.injEq
def Cm:= @Int.toNat_natCast
def Cl:= @List.length_drop
def AS:= @heap_alloc_new
def vW:= @beq_iff_eq
def vm:= @mem_ready
def Ck:= @List.length_map
def yC:= @getD_set_ne
def Cj:= @List.drop_take
def Is:= @List.getElem?_eq_none
def FX:= @List.size_toArray
def Ci:= @List.cons.inj
def KJ:= @List.getElem?_cons_zero
def ON:= @List.idxOf_lt_length_of_mem
def Iq:= @Nat.lt_of_lt_of_le
def FW:= @List.length_set
def vl:= @Iff.rfl
def KI:= @List.contains_iff_mem
def Ip:= @Bool.eq_false_iff
def Io:= @List.getElem?_map
def KH:= @List.drop_eq_nil_iff
def EB:= @Sem.run_pure
def EA:= @Sem.runT_fst
def Ez:= @List.map_nil
def Ey:= @Nat.le_of_eq
def KG:= @beq_eq_false_iff_ne
def OL:= @List.mem_singleton_self
def Im:= @List.map_append
def Il:= @Option.map_some
def OK:= @Array.toList_replicate
def OJ:= @MapKept.run_setObj_map
def OH:= @Option.map_eq_some_iff
def OG:= @List.drop_eq_nil_of_le
def KE:= @List.ext_getElem?
def OF:= @Array.getElem?_toList
def FV:= @Nat.sub_self
def OD:= @List.mem_append_right
def OC:= @List.countP_replicate
def FU:= @Nat.add_zero
def OB:= @MapKept.run_checkKey
def KD:= @List.getElem_mem
def FT:= @Nat.mul_one

def HT:Obj->Obj->Prop
 | .cells c E fr,o' => ∃aE:List Value,o' = .cells (c.toList++aE).toArray E fr
 |o,o' =>o' =o
variable{o:Oper}
def xh(o:Obj):HT o o:=by
 cases o<;>first|rfl|exact⟨[],by simp⟩
variable{c:Code}{cells:List Value}{aE:Nat}{fr:Nat×Nat}{k:Nat}{o' :Obj}
def IR{o o'' :Obj}(h:HT o o')(k:HT o' o''):HT o o'' :=by
 cases o with
 |cells c E fr=>
  obtain⟨aE,rfl⟩:=h
  obtain⟨d',rfl⟩:=k
  exact⟨aE++d',by simp⟩
 |_=>cases h;exact k
variable{off:Nat}
def GN{c:Array Value}{E:TypeId}(h:HT (.cells c E fr) o'){n:Nat}(hl:((c.toList.drop off).take n).length=n):
  ∃c',o' = .cells c' E fr/\(c'.toList.drop off).take n=(c.toList.drop off).take n:=by
 obtain⟨aE,rfl⟩:=h
 refine⟨_,rfl,?_⟩
 by_cases hn:n=0
 ·subst hn;simp
 simp only [Bk,Cl]at hl
 rw [ME (by omega),zb (by simp only [Cl];omega)]
abbrev SH:=Nat->Option Obj
def sj(S S' :SH):Prop:= ∀b o,S b=some o-> ∃o',S' b=some o' /\HT o o'
variable{S:SH}
def SH.le_refl(S:SH):sj S S:=fun _ o h=>⟨o,h,xh o⟩
variable{S' S'' :SH}{b:Bool}{e:TypeId}
def SH.le_trans(h:sj S S')(k:sj S' S''):sj S S'' :=fun b o e=>let⟨o',V,Z⟩:=h b o e;let⟨o'',h3,h4⟩:=k b o' V;⟨o'',h3,IR Z h4⟩
structure Ty where
 p:SH->Value->Prop
 mono: ∀{S S' :SH} {v:Value},sj S S' ->p S v->p S' v

structure Rp(α:Type) where
 sz:Nat
 agg:Bool
 rc:SH->List Value->α->Prop
 mono: ∀{S S' :SH} {cs:List Value} {x:α},sj S S' ->rc S cs x->rc S' cs x
 len: ∀{S:SH} {cs:List Value} {x:α},rc S cs x->cs.length=sz
 one: ∀{S:SH} {cs:List Value} {x:α},rc S cs x-> ∀c∈cs,c.oneCell' =true
 sc:agg=false->sz=1

def Rp.val{α:Type}(r:Rp α)(cs:List Value):Value:=if r.agg then .agg cs.toArray else cs.headD undef

def H{α:Type}(r:Rp α)(x:α):Ty where
 p:=fun S v=> ∃cs,v=r.val cs/\r.rc S cs x
 mono:=fun h ⟨cs,e,k⟩=>⟨cs,e,r.mono h k⟩

def tR:Ty where
 p:=fun _ _=>True
 mono:=fun _ _=>trivial

def tV(u:Value):Ty where
 p:=fun _ v=>v=u
 mono:=fun _ h=>h

def rI(k:IntKind):Rp Int where
 sz:=1
 agg:=false
 rc:=fun _ cs x=>cs=[.int k x]
 mono:=fun _ h=>h
 len:=fun h=>by rw [h];rfl
 one:=fun h c hc=>by subst h;simp at hc;subst hc;rfl
 sc:=fun _=>rfl

def rB:Rp Bool where
 sz:=1
 agg:=false
 rc:=fun _ cs x=>cs=[.bool x]
 mono:=fun _ h=>h
 len:=fun h=>by rw [h];rfl
 one:=fun h c hc=>by subst h;simp at hc;subst hc;rfl
 sc:=fun _=>rfl

abbrev cS:=List UInt8
def rS:Rp cS where
 sz:=1
 agg:=false
 rc:=fun _ cs x=>cs=[.string ⟨x.toArray⟩]
 mono:=fun _ h=>h
 len:=fun h=>by rw [h];rfl
 one:=fun h c hc=>by subst h;simp at hc;subst hc;rfl
 sc:=fun _=>rfl

variable{cs:List Value}{v:Value}
def ge{k:IntKind}{n:Int}:(H (rI k) n).p S v↔v= .int k n:=by
 constructor
 ·rintro⟨cs,rfl,h⟩;have h' :cs=[.int k n]:=h;subst h';rfl
 ·rintro rfl;exact⟨[.int k n],rfl,rfl⟩
def jZ:(H rB b).p S v↔v= .bool b:=by
 constructor
 ·rintro⟨cs,rfl,h⟩;have h' :cs=[.bool b]:=h;subst h';rfl
 ·rintro rfl;exact⟨[.bool b],rfl,rfl⟩
variable{α:Type}{s:Sem α}
def uo{s:cS}:(H rS s).p S v↔v= .string ⟨s.toArray⟩:=by
 constructor
 ·rintro⟨cs,rfl,h⟩;have h' :cs=[.string ⟨s.toArray⟩]:=h;subst h';rfl
 ·rintro rfl;exact⟨[.string ⟨s.toArray⟩],rfl,rfl⟩

def uh{α:Type}(r:Rp α)(S:SH):List Value->List α->Prop
 |cs,[]=>cs=[]
 |cs,x::xs=> ∃a b,cs=a++b/\r.rc S a x/\uh r S b xs
variable{a:Act}{xs:List α}
def tY{α:Type}{r:Rp α}{S S' :SH}(h:sj S S'): ∀{xs:List α} {cs:List Value},uh r S cs xs->uh r S' cs xs
 |[],_,k=>k
 |_::_,_,⟨a,b,e,V,Z⟩=>⟨a,b,e,r.mono h V,tY h Z⟩
variable{x:Operand}
def mF{α:Type}{r:Rp α}{S:SH}: ∀{xs:List α} {cs:List Value},uh r S cs xs->cs.length=xs.length*r.sz
 |[],_,k=>by rw [show _=_ from k];simp
 |x::xs,_,⟨a,b,e,V,Z⟩=>by rw [e,pF,r.len V,mF Z,jm,AE];omega
def CM{α:Type}{r:Rp α}{S:SH}: ∀{xs:List α} {cs:List Value},uh r S cs xs-> ∀c∈cs,c.oneCell' =true
 |[],_,k,c,hc=>by rw [show _=_ from k]at hc;cases hc
 |x::xs,_,⟨a,b,e,V,Z⟩,c,hc=>by
  rw [e]at hc
  rcases Bj.1 hc with h|h
  ·exact r.one V c h
  ·exact CM Z c h
variable{ys:List α}
def vx{α:Type}{r:Rp α}{S:SH}: ∀{xs ys:List α} {cs ds:List Value},uh r S cs xs->uh r S ds ys->uh r S (cs++ds) (xs++ys)
 |[],_,_,_,k,h=>by rw [show _=_ from k];exact h
 |_::_,_,_,_,⟨a,b,e,V,Z⟩,h=>⟨a,_,by rw [e,gK],V,vx Z h⟩
def rb{α:Type}{r:Rp α}{S:SH}: ∀{xs ys:List α} {cs:List Value},uh r S cs (xs++ys)->
  uh r S (cs.take (xs.length*r.sz)) xs/\uh r S (cs.drop (xs.length*r.sz)) ys
 |[],_,_,k=>by simp [uh];exact k
 |x::xs,ys,cs,⟨a,b,e,V,Z⟩=>by
  have hl:=r.len V
  have ih:=rb Z
  have e1:(x::xs).length*r.sz=a.length+xs.length*r.sz:=by rw [hl,jm,AE];omega
  rw [e,e1,List.take_length_add_append,List.drop_length_add_append]
  exact⟨⟨a,_,rfl,V,ih.1⟩,ih.2⟩
def Nl{r:Rp α}{x:α}:uh r S cs [x]↔r.rc S cs x:=by
 constructor
 ·rintro⟨a,b,rfl,h,Y⟩
  rw [show b=[]from Y,Ce];exact h
 ·intro h;exact⟨cs,[],by simp,h,rfl⟩
variable{i:Nat}
def CO{r:Rp α}(h:uh r S cs xs){x:α}(A:xs[i]? =some x):
  r.rc S ((cs.drop (i*r.sz)).take r.sz) x:=by
 have hi:i<xs.length:=(ui.1 A).1
 have e:xs=xs.take i++(x::xs.drop (i+1)):=by
  have:=ui.1 A
  rw [<-this.2,<-sG hi,uH]
 have hl:(xs.take i).length=i:=by simp;omega
 rw [e]at h
 have Z:=(rb h).2
 rw [hl]at Z
 obtain⟨a,b,e2,h3,_⟩:=Z
 rw [e2,<-r.len h3,List.take_left]
 exact h3

def IC{α:Type}(r:Rp α)(S:SH)(a:Option Addr)(xs:List α):Prop:=
 xs=[]\/ ∃b off c E fr,a=some ⟨b,off,none⟩/\S b=some (.cells c E fr)/\uh r S ((c.toList.drop off).take (xs.length*r.sz)) xs
def eO{α:Type}(r:Rp α):Rp (List α) where
 sz:=1
 agg:=false
 rc:=fun S cs xs=> ∃a cap,cs=[.slice a xs.length cap]/\xs.length<=cap/\cap<=maxLen/\IC r S a xs
 mono:=fun h ⟨a,cap,e,V,Z,h3⟩=>⟨a,cap,e,V,Z,h3.imp id fun⟨b,off,c,E,fr,e1,e2,e3⟩=>by
  obtain⟨o',h4,h5⟩:=h _ _ e2
  obtain⟨c',rfl,h6⟩:=GN h5 (mF e3)
  exact⟨b,off,c',E,fr,e1,h4,by rw [h6];exact tY h e3⟩⟩
 len:=fun⟨a,cap,e,_⟩=>by rw [e];rfl
 one:=fun⟨a,cap,e,_⟩ c hc=>by rw [e]at hc;simp at hc;subst hc;rfl
 sc:=fun _=>rfl
variable{cap:Nat}
def mY{r:Rp α}:(H (eO r) xs).p S v↔ ∃a cap,v= .slice a xs.length cap/\xs.length<=cap/\cap<=maxLen/\IC r S a xs:=by
 constructor
 ·rintro⟨cs,rfl,a,cap,rfl,h⟩;exact⟨a,cap,rfl,h⟩
 ·rintro⟨a,cap,rfl,h⟩;exact⟨_,rfl,a,cap,rfl,h⟩
def Cu{r:Rp α}:(H (eO r) []).p S (.slice none 0 0):=mY.2 ⟨none,0,rfl,gc _,jW _,.inl rfl⟩

def bt{α:Type}(r:Rp α)(x:α):Ty where
 p:=fun S v=> ∃b off c E fr,v= .pointer (some ⟨b,off,none⟩)/\S b=some (.cells c E fr)/\r.rc S ((c.toList.drop off).take r.sz) x
 mono:=fun h ⟨b,off,c,E,fr,e1,e2,e3⟩=>by
  obtain⟨o',h4,h5⟩:=h _ _ e2
  obtain⟨c',rfl,h6⟩:=GN h5 (r.len e3)
  exact⟨b,off,c',E,fr,e1,h4,by rw [h6];exact r.mono h e3⟩

def glob:List (Nat×List Value):=[(0,[.string ⟨([98,111,111,108]:List UInt8).toArray⟩,.int .i64 (1),.string ⟨([105,110,116]:List UInt8).toArray⟩,.int .i64 (2),.string ⟨([116,101,120,116]:List UInt8).toArray⟩,.int .i64 (3)]),(1,[.string ⟨([83,69,76,69,67,84]:List UInt8).toArray⟩,.string ⟨([68,73,83,84,73,78,67,84]:List UInt8).toArray⟩,.string ⟨([70,82,79,77]:List UInt8).toArray⟩,.string ⟨([76,69,70,84]:List UInt8).toArray⟩,.string ⟨([74,79,73,78]:List UInt8).toArray⟩,.string ⟨([79,78]:List UInt8).toArray⟩,.string ⟨([87,72,69,82,69]:List UInt8).toArray⟩,.string ⟨([71,82,79,85,80]:List UInt8).toArray⟩,.string ⟨([66,89]:List UInt8).toArray⟩,.string ⟨([72,65,86,73,78,71]:List UInt8).toArray⟩,.string ⟨([85,78,73,79,78]:List UInt8).toArray⟩,.string ⟨([65,76,76]:List UInt8).toArray⟩,.string ⟨([79,82,68,69,82]:List UInt8).toArray⟩,.string ⟨([76,73,77,73,84]:List UInt8).toArray⟩,.string ⟨([65,83,67]:List UInt8).toArray⟩,.string ⟨([68,69,83,67]:List UInt8).toArray⟩,.string ⟨([65,83]:List UInt8).toArray⟩,.string ⟨([65,78,68]:List UInt8).toArray⟩,.string ⟨([79,82]:List UInt8).toArray⟩,.string ⟨([78,79,84]:List UInt8).toArray⟩,.string ⟨([73,83]:List UInt8).toArray⟩,.string ⟨([78,85,76,76]:List UInt8).toArray⟩,.string ⟨([84,82,85,69]:List UInt8).toArray⟩,.string ⟨([70,65,76,83,69]:List UInt8).toArray⟩,.string ⟨([67,79,85,78,84]:List UInt8).toArray⟩,.string ⟨([83,85,77]:List UInt8).toArray⟩,.string ⟨([77,73,78]:List UInt8).toArray⟩,.string ⟨([77,65,88]:List UInt8).toArray⟩])]
def QE(w:World):Prop:=Lib.CaseVar 2 Lib.caseA w/\Lib.Utf8Tabs 4 5 w
structure mT(w:World)(S:SH):Prop where
 at_: ∀b o,S b=some o-> ∃o',w.heap[b]? =some o' /\HT o o'
 gl: ∀p∈glob,∃c T fr,S p.1=some (.cells c T fr)/\c.toList.take p.2.length=p.2
 tb: ∀w' :World,(∀b o,S b=some o-> ∃o',w'.heap[b]? =some o' /\HT o o')->QE w'
instance{w:World}{S:SH}:CoeFun (mT w S) (fun _=> ∀b o,S b=some o-> ∃o',w.heap[b]? =some o' /\HT o o'):=⟨mT.at_⟩
variable{w:World}
def mT.tab(h:mT w S):QE w:=h.tb w h.at_
def mT.lt(h:mT w S){b:Nat}{o:Obj}(k:S b=some o):b<w.heap.size:=let⟨_,V,_⟩:=h b o k;(Bq.1 V).1
def mT.part(h:mT w S){b:Nat}{c:Array Value}{E:TypeId}(k:S b=some (.cells c E fr)){n:Nat}(hl:((c.toList.drop off).take n).length=n):
  ∃c',w.heap[b]? =some (.cells c' E fr)/\(c'.toList.drop off).take n=(c.toList.drop off).take n:=by
 obtain⟨o',V,Z⟩:=h b _ k
 obtain⟨c',rfl,h3⟩:=GN Z hl
 exact⟨c',V,h3⟩
variable{w' :World}
def mT.same(h:mT w S)(k: ∀b o,S b=some o->w'.heap[b]? =w.heap[b]?):mT w' S:=⟨fun b o e=>by rw [k b o e];exact h b o e,h.gl,h.tb⟩

def wm:Nat->Prop:=fun _=>False
structure lr(B:Nat->Prop)(w:World)(S:SH)(w' :World)(S' :SH):Prop where
 os:w'.os=w.os
 tape:w'.tape=w.tape
 output:w'.output=w.output
 drawn:w.drawn<=w'.drawn
 size:w.heap.size<=w'.heap.size
 heap: ∀k,k<w.heap.size-> ¬B k->w'.heap[k]? =w.heap[k]?
 keep:sj S S'
 old: ∀k,k<w.heap.size-> ¬B k->S' k=S k
def lr.refl(B:Nat->Prop)(w:World)(S:SH):lr B w S w S:=⟨rfl,rfl,rfl,gc _,gc _,fun _ _ _=>rfl,SH.le_refl _,fun _ _ _=>rfl⟩
variable{w'' :World}
def lr.trans{B:Nat->Prop}(h:lr B w S w' S')(k:lr B w' S' w'' S''):lr B w S w'' S'' :=
 ⟨k.os.trans h.os,k.tape.trans h.tape,k.output.trans h.output,oc h.drawn k.drawn,oc h.size k.size,
  fun i hi Y=>(k.heap i (Iq hi h.size) Y).trans (h.heap i hi Y),SH.le_trans h.keep k.keep,
  fun i hi Y=>(k.old i (Iq hi h.size) Y).trans (h.old i hi Y)⟩
variable{C:Nat->Prop}
def lr.step{B:Nat->Prop}(h:lr B w S w' S')(k:lr C w' S' w'' S'')(hC: ∀b,C b->w.heap.size<=b\/B b):lr B w S w'' S'' :=
 ⟨k.os.trans h.os,k.tape.trans h.tape,k.output.trans h.output,oc h.drawn k.drawn,oc h.size k.size,
  fun i hi Y=>(k.heap i (Iq hi h.size) (fun hc=>(hC i hc).elim (fun h=>by omega) Y)).trans (h.heap i hi Y),SH.le_trans h.keep k.keep,
  fun i hi Y=>(k.old i (Iq hi h.size) (fun hc=>(hC i hc).elim (fun h=>by omega) Y)).trans (h.old i hi Y)⟩
def lr.more{B:Nat->Prop}(h:lr B w S w' S')(k: ∀b,B b->C b):lr C w S w' S' :=
 ⟨h.os,h.tape,h.output,h.drawn,h.size,fun i hi Y=>h.heap i hi (fun h=>Y (k i h)),h.keep,fun i hi Y=>h.old i hi (fun h=>Y (k i h))⟩
def lr.step0{B:Nat->Prop}(h:lr B w S w' S')(k:lr wm w' S' w'' S''):lr B w S w'' S'' :=h.step k fun _ Y=>Y.elim

structure OE where
 fp:Nat->Prop
 p:World->SH->Prop
 here: ∀{w S},p w S-> ∀k,fp k->k<w.heap.size
 kept: ∀{C w w' S S'},p w S->lr C w S w' S' ->(∀k,fp k-> ¬C k)->p w' S'
def OE.holds(e:OE)(base:Nat)(B:Nat->Prop)(w:World)(S:SH):Prop:=e.p w S/\ ∀k,e.fp k->base<=k\/B k
def OE.apart(e f:OE):Prop:= ∀b,e.fp b-> ¬f.fp b
def dI(base:Nat)(B:Nat->Prop)(w:World)(S:SH):List OE->Prop
 |[]=>True
 |e::O=>e.holds base B w S/\(∀f∈O,e.apart f)/\dI base B w S O
def Ky{e:OE}{base:Nat}{B:Nat->Prop}(h:e.holds base B w S)(k:lr C w S w' S')(hC: ∀b,e.fp b-> ¬C b):e.holds base B w' S' :=⟨e.kept h.1 k hC,h.2⟩
variable{O:List OE}{f:FuncId}
def dI.ext{base:Nat}{B:Nat->Prop}(k:lr C w S w' S'): ∀{O:List OE},dI base B w S O->(∀e∈O,∀b,e.fp b-> ¬C b)->dI base B w' S' O
 |[],_,_=>trivial
 |e::_,⟨V,Z,h3⟩,hC=>⟨Ky V k (hC e (oa ..)),Z,dI.ext k h3 fun f hf=>hC f (oD _ hf)⟩
def dI.ext0{base:Nat}{B:Nat->Prop}(k:lr wm w S w' S')(h:dI base B w S O):dI base B w' S' O:=
 h.ext k fun _ _ _ _ Y=>Y
def dI.mem{base:Nat}{B:Nat->Prop}: ∀{O:List OE},dI base B w S O-> ∀e∈O,e.holds base B w S
 |_::_,⟨V,_,_⟩,_,.head _=>V
 |_::_,⟨_,_,h3⟩,_,.tail _ hm=>dI.mem h3 _ hm

abbrev mK:=List (Nat×Ty)
def look:mK->Nat->Option Ty
 |[],_=>none
 |(k,t)::G,j=>bif Nat.beq k j then some t else look G j
structure Fr where
 n:Nat
 ds:List Deferred
structure du(N:Fr)(S:SH)(a:Act)(G:mK):Prop where
 size:a.tmps.size=N.n
 defers:a.defers=N.ds
 at_: ∀k t,look G k=some t->t.p S (a.tmps.getD k undef)
variable{G:mK}{j:Nat}{t:Ty}
def du.mono{N:Fr}(h:du N S a G)(k:sj S S'):du N S' a G:=⟨h.size,h.defers,fun j t e=>t.mono k (h.at_ j t e)⟩
def du.sub{N:Fr}{G' :mK}(h:du N S a G)(k: ∀j t,look G' j=some t->look G j=some t):du N S a G' :=⟨h.size,h.defers,fun j t e=>h.at_ j t (k j t e)⟩
variable{u:OE}
def du.put{N:Fr}(h:du N S a G)(hd:Nat.blt aE N.n=true)(hv:t.p S v):du N S (a.put (some aE) v) ((aE,t)::G):=by
 have hd' :aE<N.n:=by simpa [tK] using hd
 refine⟨by simp [Act.put,h.size],h.defers,fun j u e=>?_⟩
 unfold look at e
 by_cases hj:aE=j
 ·subst hj
  have e' :t=u:=by simpa using e
  rw [e']at hv
  simp [Act.put,KC,h.size,hd',hv]
 ·have Y:Nat.beq aE j=false:=by cases hh:Nat.beq aE j with
   |false=>rfl
   |true=>exact absurd (qL hh) hj
  rw [Y]at e
  have:=h.at_ j u e
  simpa [Act.put,KC,Array.getElem?_setIfInBounds,hj] using this
def QG:mK->mK->Prop
 |[],_=>True
 |(k,t)::G',G=>look G k=some t/\QG G' G
def Iy: ∀{G' G:mK},QG G' G-> ∀j t,look G' j=some t->look G j=some t
 |(k,t)::G',G,⟨V,Z⟩,j,u,e=>by
  unfold look at e
  by_cases Y:Nat.beq k j=true
  ·rw [Y]at e
   have:=qL Y
   subst this
   simp only [cond_true]at e
   rw [<-e];exact V
  ·rw [Dv]at Y
   rw [Y]at e
   exact Iy Z j u e

def bf(N:Fr)(G:mK)(x:Operand)(t:Ty):Prop:= ∀S a,du N S a G->t.p S (a.eval x)
def M{N:Fr}(h:look G k=some t):bf N G (.tmp k) t:=fun _ _ hF=>hF.at_ k t h
def hI{N:Fr}{k:IntKind}{n:Int}:bf N G (.const (.int k n)) (H (rI k) n):=fun _ _ _=>ge.2 rfl
def hB{N:Fr}:bf N G (.const (.bool b)) (H rB b):=fun _ _ _=>jZ.2 rfl
def hS{N:Fr}{s:Array UInt8}:bf N G (.const (.string ⟨s⟩)) (H rS s.toList):=fun _ _ _=>uo.2 rfl
def Rn{N:Fr}{r:Rp α}:bf N G (.const (.slice none 0 0)) (H (eO r) []):=fun _ _ _=>Cu
def hV{N:Fr}:bf N G (.const v) (tV v):=fun _ _ _=>rfl

variable{R:Ending->World->Prop}{args:α->List Ty}{bytes:Nat}{done:Array Bool}{es:Array Event}{g:Option (Nat×Bool)}{gs:Nat}{l:Option Nat}{m m' :Machine}{ops:Array Oper}{q:Bool}{rest:List Oper}
section
variable{P:Program}
def wOf{α:Type}:Result α->World
 | .ok _ w=>w
 | .halt _ w=>w
def JX(w:World)(a:Addr)(n:Nat):(w.freeze a n).drawn=w.drawn:=by unfold World.freeze;split<;>rfl
def E5{at_:Addr}{u:TypeId}{k:Addr}{x:Bool}{r:World×List Addr}(h:w.viewStore P at_ u k v x= .ok r):r.1.drawn=w.drawn:=by
 unfold World.viewStore at h
 simp only [bind,Except.bind,pure,Except.pure,throw,throwThe,MonadExceptOf.throw]at h
 repeat' (split at h)
 all_goals first
  |(cases h;done)
  |(cases h;rfl)
def Hh{a:Addr}{x:Bool}{r:World×List Addr}(h:w.farStore P a v x= .ok r):r.1.drawn=w.drawn:=by
 unfold World.farStore at h
 split at h
 ·split at h
  ·rename_i Z;cases h;exact E5 Z
  ·cases h
 ·cases h
def Er{α:Type}: ∀(a:Ask α) (w:World),w.drawn<=(w.ask a).2.drawn
 | .done a,w=>gc _
 | .ask what range k,w=>by
  unfold World.ask
  simp only
  split
  ·exact Er (k 0) w
  ·exact oc (Nat.le_succ _) (Er (k ((Question.extern what range).cut (w.tape w.drawn (Question.extern what range)))) {w with drawn:=w.drawn+1})
def QF(w:World)(c:Sys):w.drawn<=(w.sys c).2.drawn:=by
 unfold World.sys
 have h:=Er (Kernel.perform c w.os) w
 split
 ·exact gc _
 ·rename_i Z
  rw [Z]at h
  exact h
def iW{α:Type}: ∀(s:Sem α) (w:World),w.drawn<=(wOf (s.run P w)).drawn
 | .pure a,w=>gc _
 | .load m a k,w=>by
  unfold Sem.run
  split
  ·exact iW _ w
  ·split
   ·exact iW _ w
   ·exact gc _
 | .store m a v k,w=>by
  have key:w.drawn<=(wOf (match w.cell? a with
   |some _=>if w.frozen? a then .halt (.unsupported (.unsafePointer "a write to bytes that a string shares")) w else k.run P (w.setCell a v)
   |none=>match w.farStore P a v (m== .atomic)with
    | .ok (w,_)=>k.run P w
    | .error h=> .halt h w)).drawn:=by
   split
   ·split
    ·exact gc _
    ·exact iW k (w.setCell a v)
   ·split
    ·rename_i w' l h
     have:=iW k w'
     rw [show w'.drawn=w.drawn from Hh h]at this
     exact this
    ·exact gc _
  cases v<;>first|exact gc _|(simp only [Sem.run];exact key)
 | .new o k,w=>iW (k w.heap.size) {w with heap:=w.heap.push o}
 | .shape r k,w=>iW (k (w.shape? r)) w
 | .freeze a n k,w=>by
  have:=iW k (w.freeze a n)
  rw [JX]at this
  exact this
 | .frozen a k,w=>iW (k (w.frozen? a)) w
 | .getObj r k,w=>by
  unfold Sem.run
  split
  ·exact gc _
  ·exact iW _ w
  ·exact gc _
 | .setObj r o k,w=>by
  unfold Sem.run
  split
  ·exact gc _
  ·exact iW k {w with heap:=w.heap.setIfInBounds r o}
  ·exact gc _
 | .choose q k,w=>by
  unfold Sem.run
  split
  ·exact iW (k 0) w
  ·exact oc (Nat.le_succ _) (iW (k (q.cut (w.tape w.drawn q))) {w with drawn:=w.drawn+1})
 | .sys c k,w=>by
  exact oc (QF w c) (iW (k (w.sys c).1) (w.sys c).2)
 | .program k,w=>iW (k P) w
 | .mark m k,w=>iW k w
 | .halt h,w=>gc _
def dG{x:α}(h:s.run P w= .ok x w'):w.drawn<=w'.drawn:=by
 have:=iW (P:=P) s w
 rw [h]at this
 exact this
def pj{x:Halt}(h:s.run P w= .halt x w'):w.drawn<=w'.drawn:=by
 have:=iW (P:=P) s w
 rw [h]at this
 exact this
def Rb{x:α}{es' :Array Event}(h:s.runT P w es=(.ok x w',es')):w.drawn<=w'.drawn:=
 dG (P:=P) (s:=s) (x:=x) (by rw [<-EA P s w es,h])
def LU{x:Halt}{es' :Array Event}(h:s.runT P w es=(.halt x w',es')):w.drawn<=w'.drawn:=
 pj (P:=P) (s:=s) (x:=x) (by rw [<-EA P s w es,h])
def E4{rest:Rest}{cases:Array CommCase}(h:waitingAt rest cases w=some w'):w'.drawn=w.drawn:=by
 unfold waitingAt at h
 repeat' (split at h)
 all_goals (cases h;try rfl)
def Df(rest:Rest)(gs:Array Goroutine)(i:Nat)(g:Goroutine)(cases:Array CommCase)(blocking:Bool)
  (shape:CommShape)(w:World)(m' :Machine)(h:(communicate P rest gs i g cases blocking shape w).1= .next m'):w.drawn<=m'.world.drawn:=by
 unfold communicate at h
 simp only []at h
 repeat' first
  |(simp at h;done)
  |(simp only [Ch]at h;subst h;(try dsimp only);exact gc _)
  |(simp only [Ch]at h;subst h;(try dsimp only);exact dG (by assumption))
  |(simp only [Ch]at h;subst h;(try dsimp only);exact Ey (E4 (by assumption)).symm)
  |(simp only [Ch]at h;subst h;(try dsimp only);exact oc (dG (by assumption)) (dG (by assumption)))
  |(simp only [Ch]at h;subst h;(try dsimp only);exact oc (dG (by assumption)) (pj (by assumption)))
  |split at h
def GV(gs:Array Goroutine)(rest:Rest)(w:World)(m' :Machine)
  (h:Go.look P gs rest w= .next m'):w.drawn<=m'.world.drawn:=by
 unfold Go.look at h
 simp only []at h
 repeat' first
  |(simp at h;done)
  |(simp only [Ch]at h;subst h;(try dsimp only);exact dG (by assumption))
  |split at h
def FH(aE:Nat):GStep->Prop
 | .go _ w _=>aE<=w.drawn
 | .comm _ _ _ _ w _=>aE<=w.drawn
 | .spawn _ _ w _=>aE<=w.drawn
 | .count _ w _=>aE<=w.drawn
 | .timer _ _ w _=>aE<=w.drawn
 | .alone _ _ w _=>aE<=w.drawn
 | .newcoro _ _ _ w _=>aE<=w.drawn
 | .coroswitch _ _ _ w _=>aE<=w.drawn
 | .collect _ w _=>aE<=w.drawn
 | .watch _ w _=>aE<=w.drawn
 | .ended _ _ _=>True
def sQ{s:GStep}(h:FH aE s):FH aE (s.after es):=by cases s<;>exact h
def vE{e:Nat}{s:GStep}(h:FH aE s)(k:e<=aE):FH e s:=by
 cases s<;>first|exact oc k h|trivial
def N0(aE:Nat)(w:World)(fd:Nat)(text:ByteArray)(o:Outcome):FH aE (endWith w fd text o):=by
 unfold endWith
 repeat' split
 all_goals trivial
def TP(fr:Frame)(il:List ByteArray)(m:String)(whole:Bool)(w:World):FH w.drawn (dieOf fr il m whole w):=gc _
def wE(fr:Frame)(m:String)(w:World):FH w.drawn (endThrow fr m w):=gc _
def zL(fr:Frame)(v:Value)(w:World):FH w.drawn (endPrinting P fr v w):=by
 unfold endPrinting
 simp only []
 split
 ·exact gc _
 ·trivial
def EV(fr:Frame)(callers:List Frame)(dying:Option Dying)(m:String)(w:World):FH w.drawn (endFatal P fr callers dying m w):=by
 unfold endFatal
 simp only []
 split
 ·exact vE (TP _ _ _ _ _) (dG (by assumption))
 ·trivial
 ·trivial
def MH(fr:Frame)(aE:Dying)(f:Fatal)(w:World):FH w.drawn (writeOn P fr aE f w):=by
 unfold writeOn
 simp only []
 split
 ·trivial
 ·split
  ·exact Rb (by assumption)
  ·exact LU (by assumption)
  ·trivial
  ·trivial
def Zj(fr:Frame)(aE:Dying)(w:World):FH w.drawn (die P fr aE w):=by
 unfold die
 simp only []
 split
 ·exact MH _ _ _ _
 ·split
  ·split
   ·exact gc _
   ·exact N0 _ _ _ _ _
  ·split
   ·exact gc _
   ·split
    ·exact dG (by assumption)
    ·trivial
   ·apply sQ
    split
    ·exact dG (P:=P) (by rw [<-EA];assumption)
    ·exact dG (P:=P) (by rw [<-EA];assumption)
    ·trivial
    ·exact vE (zL _ _ _) (pj (P:=P) (by rw [<-EA];assumption))
    ·trivial
   ·trivial
def sP{x:α}(h:(s.runT P w es).1= .ok x w'):w.drawn<=w'.drawn:=dG (P:=P) (s:=s) (x:=x) (by rw [<-EA P s w es,h])
def wr{x:Halt}(h:(s.runT P w es).1= .halt x w'):w.drawn<=w'.drawn:=pj (P:=P) (s:=s) (x:=x) (by rw [<-EA P s w es,h])
def zM(main:Bool)(fr:Frame)(callers:List Frame)(dying:Option Dying)(v:Value)(w:World):FH w.drawn (doReturn P main fr callers dying v w):=by
 unfold doReturn
 simp only []
 repeat' split
 all_goals first|exact gc _|trivial
def JU{c:Prop} [Decidable c]{a b:GStep}(ha:FH aE a)(Y:FH aE b):FH aE (if c then a else b):=by split<;>assumption
def Fq(fr:Frame)(callers:List Frame)(dying:Option Dying)(aE:Deferred)(w:World):FH w.drawn (callDeferred P fr callers dying aE w):=by
 unfold callDeferred
 simp only []
 refine JU trivial (sQ ?_)
 split
 all_goals first
  |exact sP (by assumption)
  |exact wr (by assumption)
  |trivial
  |exact vE (EV _ _ _ _ _) (wr (by assumption))
  |exact vE (wE _ _ _) (wr (by assumption))
  |(split<;>exact sP (by assumption))
def QA(main:Bool)(fr:Frame)(callers:List Frame)(dying:Option Dying)(w:World):FH w.drawn (unwind P main fr callers dying w):=by
 unfold unwind
 simp only []
 split
 ·apply sQ
  split
  ·exact sP (by assumption)
  ·trivial
 ·exact Fq _ _ _ _ _
 ·split
  ·trivial
  ·split
   ·trivial
   ·split
    ·exact gc _
    ·split
     ·split
      ·exact gc _
      ·split
       ·exact dG (by assumption)
       ·trivial
       ·trivial
     ·split
      ·exact zL _ _ _
      ·trivial
  ·split
   ·exact zM _ _ _ _ _ _
   ·apply sQ
    split
    ·exact vE (zM _ _ _ _ _ _) (sP (by assumption))
    ·trivial
    ·trivial
def TL(fr:Frame)(callers:List Frame)(dying:Option Dying)(g:Nat)(w:World):FH w.drawn (early P fr callers dying g w):=by
 have hn: ∀w1:World,w.drawn<=w1.drawn->FH w.drawn (match w1.heap[g]? with
   |some (.pending c elem)=> .go {frame:=fr,callers,status:= .running,dying} {w1 with heap:=w1.heap.setIfInBounds g (.cells c elem)}
   |_=> .ended (.stuck "early: the variable does not wait" (fr.pos P)) w1):=fun w1 h=>by
  split
  ·exact h
  ·trivial
 unfold early
 simp only []
 repeat' first
  |trivial
  |exact hn _ (gc _)
  |exact gc _
  |exact hn _ (dG (by assumption))
  |exact dG (P:=P) (by assumption)
  |split
def zS(main:Bool)(listen:Bool)(fr:Frame)(callers:List Frame)(dying:Option Dying)(s:Sem Next)(w:World):FH w.drawn (stepG.apply P listen fr callers dying s w):=by
  unfold stepG.apply
  simp only []
  apply sQ
  have hr:(if listen=true then s.runT P w #[]else(s.run P w,#[])).1=s.run P w:=by
    split
    · exact EA _ _ _ _
    · rfl
  rw [hr]
  split
  all_goals first
    |exact dG (by assumption)
    |exact pj (by assumption)
    |trivial
    |exact vE (EV _ _ _ _ _) (pj (by assumption))
    |exact vE (wE _ _ _) (pj (by assumption))
    |exact vE (TL _ _ _ _ _) (pj (by assumption))
    | (repeat' split
       all_goals first
        |exact dG (by assumption)
        |exact vE (wE _ _ _) (dG (by assumption)))
def U7(main listen:Bool)(fr:Frame)(callers:List Frame)(dying:Option Dying)(w:World):FH w.drawn (stepG.oper P listen fr callers dying w):=by
 unfold stepG.oper
 split
 ·trivial
 ·split
  ·exact zS main _ _ _ _ _ _
  ·exact zS main _ _ _ _ _ _
def Ws(main listen:Bool)(fr:Frame)(callers:List Frame)(dying:Option Dying)(w:World):FH w.drawn (stepG.exec P main listen fr callers dying w):=by
 have leave: ∀(c:Prop) (_:Decidable c) (jump:Option Code),FH w.drawn (match fr.roundOf with
   |none=>if c then GStep.go {frame:={fr with mode:= .returning},callers,status:= .running,dying} w else .ended (.stuck "exit, goto: no such block or label" (fr.pos P)) w
   |some l=>GStep.after (seen P fr.fn ((Instr.endRound l jump).runT P w #[]).2) (match ((Instr.endRound l jump).runT P w #[]).1 with
    | .ok v w=>doReturn P main fr callers dying v w
    | .halt _ w=> .ended (.stuck "range over a function: no such loop" (fr.pos P)) w)):=fun c _ jump=>by
  split
  ·exact JU (gc _) trivial
  ·apply sQ
   split
   ·exact vE (zM _ _ _ _ _ _) (sP (by assumption))
   ·trivial
 unfold stepG.exec
 simp only []
 split
 all_goals first
  |exact leave _ _ _
  |exact gc _
  |exact zS main _ _ _ _ _ _
  |trivial
  |(split<;>first|exact gc _|trivial)
  |(cases h:exitTo _ _<;>first|exact gc _|exact leave _ _ _)
  |(cases h:gotoIn _ _<;>first|exact gc _|exact leave _ _ _)
  |(cases h:Extern.next _<;>first|trivial|exact zS main _ _ _ _ _ _)
  |(apply sQ;split<;>first|trivial|exact sP (by assumption)|exact wr (by assumption)|exact vE (zS main _ _ _ _ _ _) (sP (by assumption)))
  |(refine JU (gc _) ?_;split<;>first|trivial|exact dG (by assumption))
  |(refine JU ?_ (gc _);exact U7 main _ _ _ _ _)
  |skip
def Sr(main listen:Bool)(g:Goroutine)(w:World):FH w.drawn (stepG P main g w listen):=by
 unfold stepG
 simp only []
 split
 ·exact Zj _ _ _
 ·exact Ws _ _ _ _ _ _
 ·exact QA _ _ _ _ _
def HY{op:TimerOp}(h:timerOp m op= .ok (v,m')):m.world.drawn<=m'.world.drawn:=by
 have hr: ∀(m0:Machine) (k:Nat) (t:Timer) (when_ period:Nat),(retime m0 k t when_ period).2.world.drawn=m0.world.drawn:=fun m0 k t a b=>by
  unfold retime drain
  cases t.chan with
  |none=>rfl
  |some c=>simp only [];split<;>rfl
 have ho: ∀{var:Addr} {m0:Machine},timerOp.opened m var=some m0->m0.world.drawn=m.world.drawn:=fun{var m0} h=>by
  unfold timerOp.opened at h
  repeat' (split at h)
  all_goals (cases h;try rfl)
 have hn: ∀{var:Addr} {m0:Machine} {f:Nat->Timer->Value×Machine} {r:Value×Machine},timerOp.named m0 var f= .ok r-> ∃k t,r=f k t:=fun{var m0 f r} h=>by
  unfold timerOp.named at h
  split at h
  ·cases h;exact⟨_,_,rfl⟩
  ·cases h
 unfold timerOp at h
 split at h
 ·repeat' (split at h)
  all_goals first
   |(cases h;exact gc _)
   |(cases h;done)
 ·obtain⟨k,t,e⟩:=hn h
  rw [show m' =(retime m k t 0 t.period).2 from congrArg Prod.snd e,hr]
  exact gc _
 ·split at h
  ·rename_i m0 hm0
   obtain⟨k,t,e⟩:=hn h
   rw [show m' =(retime m0 k t _ _).2 from congrArg Prod.snd e,hr,ho hm0]
   exact gc _
  ·cases h
 ·simp only [Except.ok.injEq,Prod.mk.injEq]at h
  rw [<-h.2]
  exact gc _
def Ma{fr:Frame}{m:String}{g:Goroutine}(h:endThrow fr m w= .go g w' es):w.drawn<=w'.drawn:=by
 have:=wE fr m w
 rw [h]at this
 exact this
def Ng(m m' :Machine)(i:Nat)(b:Bool)(h:(runT P m i b).1= .next m'):m.world.drawn<=m'.world.drawn:=by
  simp only [runT]at h
  revert h
  generalize m.gs.swapAt! _ _=gg
  have hs:=Sr (P:=P) (i==0) b gg.1 m.world
  revert hs
  generalize stepG P _ gg.1 m.world b=s
  intro hs h
  cases s<;>simp only []at h
  all_goals first
    |(simp at h;done)
    |exact oc hs (Df _ _ _ _ _ _ _ _ _ h)
    |exact oc hs (GV _ _ _ _ h)
    |(simp only [Ch]at h;subst h;exact hs)
    |(repeat' first
        |(simp at h;done)
        |(simp only [Ch]at h;subst h;exact hs)
        |(simp only [Ch]at h;subst h;exact oc hs (HY (by assumption)))
        |(simp only [Ch]at h;subst h;exact oc hs (Ma (by assumption)))
        |split at h)
def Lf(m m' :Machine)(k:Nat)(h:serve P m k= .next m'):m.world.drawn<=m'.world.drawn:=by
 unfold serve at h
 simp only []at h
 repeat' first
  |(simp at h;done)
  |(simp only [Ch]at h;subst h;exact gc _)
  |split at h
def Mk(m m' :Machine)(ops:Array MemOp)(h:askOn P m= .machine (.next m') ops):m.world.drawn<=m'.world.drawn:=by
 unfold askOn at h
 simp only []at h
 repeat' first
  |(simp at h;done)
  |(simp only [Move.machine.injEq]at h;exact oc (dG (by assumption)) (Lf _ _ _ h.1))
  |(simp only [Move.machine.injEq,Ch]at h;obtain⟨rfl,_⟩:=h;(try simp only [Machine.advanceTo]);exact dG (by assumption))
  |(simp only [Move.machine.injEq,Ch]at h;obtain⟨rfl,_⟩:=h;(try simp only [Machine.advanceTo]);exact oc (dG (by assumption)) (dG (by assumption)))
  |split at h
def IX{gs:Array Goroutine}{rest:Rest}{t:Nat}{x:α}(h:s.run P (Machine.advanceTo {world:=w,gs:=gs,rest:=rest} t).world= .ok x w'):w.drawn<=w'.drawn:=by
 have:=dG h
 simpa only [Machine.advanceTo] using this
def Kr(m m' :Machine)(i:Nat)(h:askOn P m= .goroutine m' i):m.world.drawn<=m'.world.drawn:=by
  unfold askOn at h
  simp only []at h
  repeat' first
    |(simp at h;done)
    |(simp only [Move.goroutine.injEq]at h;rw [<-h.1];(try simp only [Machine.advanceTo]);first
        |exact dG (by assumption)
        |exact oc (dG (by assumption)) (dG (by assumption))
        |exact oc (dG (by assumption)) (oc (dG (by assumption)) (dG (by assumption)))
        |exact oc (dG (by assumption)) (oc (dG (by assumption)) (oc (dG (by assumption)) (dG (by assumption))))
        |exact oc (dG (by assumption)) (oc (dG (by assumption)) (IX (by assumption)))
        |exact oc (dG (by assumption)) (oc (dG (by assumption)) (oc (IX (by assumption)) (dG (by assumption)))))
    |split at h
def HA(m:Machine):(∃m₂:Machine,m.world.drawn<=m₂.world.drawn/\ask P m=askOn P m₂)\/(∃o w,ask P m= .machine (.ended o w) #[]):=by
 unfold ask
 by_cases hw:m.rest.watch=true
 ·rw [cz hw]
  cases hc:(choose (.extern "collector.look" 2)).run P m.world with
  |halt h w=>exact .inr ⟨_,_,rfl⟩
  |ok k world=>
   have e1:=dG hc
   rcases k with _|_|k
   ·exact .inl ⟨{m with world},e1,rfl⟩
   ·show(∃m₂:Machine,m.world.drawn<=m₂.world.drawn/\(match Go.look P m.gs m.rest world with| .next m=>askOn P m|e=>Move.machine e)=askOn P m₂)\/
     (∃o w,(match Go.look P m.gs m.rest world with| .next m=>askOn P m|e=>Move.machine e)= .machine (.ended o w) #[])
    cases hl:Go.look P m.gs m.rest world with
    |next m₂=>exact .inl ⟨m₂,oc e1 (GV _ _ _ _ hl),rfl⟩
    |ended o w=>exact .inr ⟨o,w,rfl⟩
   ·exact .inl ⟨{m with world},e1,rfl⟩
 ·simp only [hw,lu,jQ]
  exact .inl ⟨m,gc _,rfl⟩
def NB(m m' :Machine)(ops:Array MemOp)(h:move P m= .machine (.next m') ops):m.world.drawn<=m'.world.drawn:=by
 have ha: ∀m1:Machine,m1.world.drawn=m.world.drawn->ask P m1= .machine (.next m') ops->m.world.drawn<=m'.world.drawn:=fun m1 e h=>by
  rcases HA (P:=P) m1 with⟨m₂,hs,he⟩|⟨o,w,he⟩
  ·rw [he]at h;rw [<-e];exact oc hs (Mk m₂ m' ops h)
  ·rw [he]at h;simp at h
 unfold move at h
 repeat' first
  |(simp at h;done)
  |(refine ha _ ?_ h;rfl)
  |split at h
def LC(m m' :Machine)(i:Nat)(h:move P m= .goroutine m' i):m.world.drawn<=m'.world.drawn:=by
 have ha: ∀m1:Machine,m1.world.drawn=m.world.drawn->ask P m1= .goroutine m' i->m.world.drawn<=m'.world.drawn:=fun m1 e h=>by
  rcases HA (P:=P) m1 with⟨m₂,hs,he⟩|⟨o,w,he⟩
  ·rw [he]at h;rw [<-e];exact oc hs (Kr m₂ m' i h)
  ·rw [he]at h;cases h
 unfold move at h
 repeat' first
  |(simp at h;done)
  |(refine ha _ ?_ h;rfl)
  |(simp only [Move.goroutine.injEq]at h;rw [<-h.1];exact gc _)
  |split at h
def MS(h:step P m= .next m'):m.world.drawn<=m'.world.drawn:=by
 simp only [step,stepT]at h
 split at h
 ·rename_i m₁ i hm
  exact oc (LC m m₁ i hm) (Ng m₁ m' i _ h)
 ·rename_i s ops hm
  simp only []at h
  subst h
  exact NB m m' ops hm
def EG(h:Steps P m m'):m.world.drawn<=m'.world.drawn:=by
 obtain⟨n,hn⟩:=h
 induction n generalizing m with
 |zero=>simp only [runN,Ch]at hn;rw [hn];exact gc _
 |succ n ih=>
  simp only [runN]at hn
  split at hn
  ·rename_i m1 V
   exact oc (MS V) (ih hn)
  ·rename_i A
   exact absurd hn (A _)
def Mj{args:Array Value}(h:Calls P f args w R)(ho: ∀w',¬R .outgrown w'):Calls P f args w fun e w' =>R e w' /\w.drawn<=w'.drawn:=fun cs=>by
 obtain⟨e,w',fr,hr,hc,Z⟩:=h cs
 refine⟨e,w',fr,⟨hr,?_⟩,hc,Z⟩
 cases e with
 |outgrown=>exact absurd hr (ho w')
 |returned v=>exact EG (show Steps P _ _ from hc)
 |panicked c=>exact EG (show Steps P _ _ from hc)
end

def fw(r:Option Nat):Fence:={fn:=fun _=>True,depth:=none,alive:=false,round:=r}
def yu{r:Option Nat}{n:Nat}{P:Program}{args:Array Value}:CallsIn (fw r) n P f args w R↔Calls P f args w R:=callsIn_wide
def LY{r:Option Nat}{n:Nat}:(fw r).depth.isSome=true->1<=n:=fun h=>by cases h
structure En where
 P:Program
 N:Fr
 B:Nat->Prop
 w0:World
 S0:SH
 r:Option Nat
def En.base(E:En):Nat:=E.w0.heap.size

def X9(P:Program)(o:Oper)(a:Act)(ax:Act->World->Prop):Result Next->Prop
 | .ok (.value v) w' =>ax (a.put o.dst v) w'
 | .ok .skip w' =>ax (a.put o.dst undef) w'
 | .ok (.enter f args) w' =>Calls P f args w' fun e w'' => ∃v,e= .returned v/\ax (a.put o.dst v) w''
 | .ok (.round l f tmps assign body) w' =>RoundIn (fw none) 0 P l f tmps assign body w' fun e w'' => ∃v,e= .returned v/\ax (a.put o.dst v) w''
 |_=>False
def Lx(P:Program)(o:Oper)(a:Act)(w:World)(ax:Act->World->Prop):Prop:=(∀c,o.op≠ .defer c)/\X9 P o a ax ((execOp a.eval o).run P w)
def Nh{r:Option Nat}{n:Nat}{P:Program}{l:Nat}{tmps:Array Value}{assign body:Code}(h:RoundIn (fw none) 0 P l f tmps assign body w R):RoundIn (fw r) n P l f tmps assign body w R:=
 ⟨trivial,fun c cs _=>h.2 c cs (fun _ hd=>by cases hd)⟩
variable{ax K' :Act->World->Prop}
def SN{P:Program}(hK: ∀a w,ax a w->K' a w){r:Result Next}(h:X9 P o a ax r):X9 P o a K' r:=by
 cases r with
 |ok n w=>
  cases n<;>simp only [X9]at h ⊢
  case value=>exact hK _ _ h
  case skip=>exact hK _ _ h
  case enter f args=>exact h.mono fun e w' ⟨v,he,hk⟩=>⟨v,he,hK _ _ hk⟩
  case round l f tmps assign body=>exact h.mono fun e w' ⟨v,he,hk⟩=>⟨v,he,hK _ _ hk⟩
 |halt x w=>simp only [X9]at h
def pN{P:Program}(hK: ∀a w,ax a w->K' a w)(h:Lx P o a w ax):Lx P o a w K' :=⟨h.1,SN hK h.2⟩
variable{ah:Exit->Act->World->Prop}{β:Type}{res:β->Ty}
def mB{P:Program}{r:Option Nat}(hK: ∀a w,ax a w->K' a w)(h:Lx P o a w ax):o.wpIn (fw r) 0 P a w K' ah:=by
 obtain⟨hd,h⟩:=h
 refine⟨fun _ _=>trivial,?_⟩
 rw [Oper.semAt_eq _ _ _ hd]
 generalize (execOp a.eval o).run P w=res at h
 cases res with
 |ok n w=>
  cases n<;>simp only [X9]at h<;>simp only [Oper.uponIn]
  case value=>exact hK _ _ h
  case skip=>exact hK _ _ h
  case enter f args=>exact⟨LY,yu.2 (h.mono fun e w' ⟨v,he,hk⟩=>by subst he;exact hK _ _ hk)⟩
  case round l f tmps assign body=>exact⟨LY,(Nh h).mono fun e w' ⟨v,he,hk⟩=>by subst he;exact hK _ _ hk⟩
 |halt x w=>simp only [X9]at h

def cE(E:En)(O:List OE)(G:mK)(o:Oper)(t:Ty):Prop:=
 ∀a w S,mT w S->dI E.base E.B w S O->du E.N S a G->
  Lx E.P o a w (fun a' w' => ∃v S',a' =a.put o.dst v/\lr wm w S w' S' /\mT w' S' /\t.p S' v)
structure St(E:En)(O:List OE)(G:mK)(a:Act)(w:World)(S:SH):Prop where
 ext:lr E.B E.w0 E.S0 w S
 sat:mT w S
 own:dI E.base E.B w S O
 facts:du E.N S a G
def RG(E:En)(ops:Array Oper)(ah:Exit->Act->World->Prop)(l:List Oper)(O:List OE)(G:mK):Prop:= ∀a w S,St E O G a w S->wpListIn (fw E.r) 0 E.P ops ah l a w
def CG(E:En)(ah:Exit->Act->World->Prop)(c:Code)(O:List OE)(G:mK):Prop:= ∀a w S,St E O G a w S->c.wpIn (fw E.r) 0 E.P ah a w
def AT(E:En)(ah:Exit->Act->World->Prop)(e:Exit)(O:List OE)(G:mK):Prop:= ∀a w S,St E O G a w S->ah e a w

variable{after:Array Edge}{fn:Func}{pos:String}{ts:List Ty}{y:Code}
section
variable{E:En}{G' :mK}{l:List Oper}
def St.step(h:St E O G a w S)(k:lr wm w S w' S')(hs:mT w' S')(hd:Nat.blt aE E.N.n=true)(hv:t.p S' v):
  St E O ((aE,t)::G) (a.put (some aE) v) w' S' :=
 ⟨h.ext.step0 k,hs,h.own.ext0 k,(h.facts.mono k.keep).put hd hv⟩
def St.sub(h:St E O G a w S)(k:QG G' G):St E O G' a w S:=⟨h.ext,h.sat,h.own,h.facts.sub (Iy k)⟩
def RG.of(D:o.guard=none)(h: ∀a w S,St E O G a w S->Lx E.P o a w (fun a' w' =>wpListIn (fw E.r) 0 E.P ops ah l a' w')):RG E ops ah (o::l) O G:=fun a w S st=>
 wpListIn_plain D fun _ hK=>mB hK (h a w S st)

def Jl{op:Op}{ty:TypeId}(h:cE E O G ⟨some aE,op,ty,pos,after,none⟩ t)(hd:Nat.blt aE E.N.n=true)(k:RG E ops ah l O ((aE,t)::G)):
  RG E ops ah (⟨some aE,op,ty,pos,after,none⟩::l) O G:= .of rfl fun a w S st=>
 pN (fun a' w' ⟨_,_,ha,he,hs,hv⟩=>by subst ha;exact k _ _ _ (st.step he hs hd hv)) (h a w S st.sat st.own st.facts)
def bz(h:AT E ah .normal O G):RG E ops ah [] O G:=fun a w S st=>h a w S st
def aJ{id:Nat}{l:List Oper}(h:RG E l.toArray ah l O G):CG E ah (.region id l.toArray false) O G:=fun a w S st=>wpIn_region_lit (h a w S st)
def aD{x:Code}(h:CG E (Exit.then (y.wpIn (fw E.r) 0 E.P ah) ah) x O G):CG E ah (.seq x y) O G:=fun a w S st=>wpIn_seq (h a w S st)
def av(h:CG E ah y O G):AT E (Exit.then (y.wpIn (fw E.r) 0 E.P ah) ah) .normal O G:=h
def bk(h:AT E ah .normal O G):CG E ah .skip O G:=fun a w S st=>wpIn_skip (h a w S st)
def eY{id:Nat}(h:AT E ah (.exit id) O G):CG E ah (.exit id) O G:=fun a w S st=>wpIn_exit (h a w S st)
def wY(h:AT E ah .ret O G):CG E ah .ret O G:=fun a w S st=>wpIn_ret (h a w S st)
def cm{e:Exit}(h:AT E ah e O G')(k:QG G' G):AT E ah e O G:=fun a w S st=>h a w S (st.sub k)
def FQ{c:Operand}{x:Code}(Y:bf E.N G c (H rB b))(A:b=true->CG E ah x O G)(hy:b=false->CG E ah y O G):CG E ah (.cond c x y) O G:=fun a w S st=>by
 have hv:a.eval c= .bool b:=jZ.1 (Y S a st.facts)
 refine wpIn_cond hv ?_
 cases b with
 |true=>exact A rfl a w S st
 |false=>exact hy rfl a w S st
def ai{id:Nat}(h:CG E (Exit.inBlock id ah) c O G):CG E ah (.block id c) O G:=fun a w S st=>wpIn_block (h a w S st)
def zA(r:Option Nat)(P:Program)(c:Code)(ah:Exit->Act->World->Prop)(a:Act)(w:World):Prop:=
 ∀(b:Frame) (k:List Item) (cs:List Frame),b.roundOf=r-> ∃e a' w',ah e a' w' /\ArrivesIn (Machine.fenced P (fw r)) P (lone (b.atR a (.code c:: .inLoop c::k)) cs w) b k cs e a' w'
def Px{r:Option Nat}{n:Nat}:(fw r).room n:=fun _ hd=>by cases hd
def JA{r:Option Nat}{P:Program}{ah:Exit->Act->World->Prop}(h:zA r P c ah a w):(Code.loop c).wpIn (fw r) 0 P ah a w:=fun b k cs hro Y hr=>
 let⟨e,a',w',hq,harr⟩:=h b k cs hro
 ⟨e,a',w',hq,.of_steps (.one (fenced_calm Y hr rfl) stepR_loop) harr⟩
def H9{r:Option Nat}{P:Program}{ah:Exit->Act->World->Prop}(h:c.wpIn (fw r) 0 P (Exit.then (zA r P c ah) ah) a w):zA r P c ah a w:=by
 intro b k cs hro
 obtain⟨e,a₁,w₁,hq,harr⟩:=h b (.inLoop c::k) cs hro trivial Px
 cases e with
 |normal=>
  obtain⟨e₂,a₂,w₂,hq₂,harr₂⟩:=hq b k cs hro
  exact⟨e₂,a₂,w₂,hq₂,.of_steps (StepsIn.trans harr (.one (fenced_calm (n:=0) (F:=fw r) trivial Px rfl) stepR_inLoop)) harr₂⟩
 |exit id=>exact⟨_,a₁,w₁,hq,.pass (x:= .inLoop c) rfl (fun _ _=> .inl (by simp)) harr⟩
 |goto l=>exact⟨_,a₁,w₁,hq,.pass (x:= .inLoop c) rfl (fun _ _=> .inl (by simp)) harr⟩
 |ret=>exact⟨_,a₁,w₁,hq,.pass (x:= .inLoop c) rfl (fun _ _=> .inl (by simp)) harr⟩
 |panic ch=>exact⟨_,a₁,w₁,hq,.pass (x:= .inLoop c) rfl (fun _ _=> .inl (by simp)) harr⟩
 |outgrown=>exact⟨_,a₁,w₁,hq,.pass (x:= .inLoop c) rfl (fun _ _=> .inl (by simp)) harr⟩
def LG(E:En)(ah:Exit->Act->World->Prop)(c:Code)(O:List OE)(G:mK):Prop:= ∀a w S,St E O G a w S->zA E.r E.P c ah a w
def bp(h:LG E ah c O G):CG E ah (.loop c) O G:=fun a w S st=>JA (h a w S st)
def dX(h:CG E (Exit.then (zA E.r E.P c ah) ah) c O G):LG E ah c O G:=fun a w S st=>H9 (h a w S st)
def ay(h:LG E ah c O G')(k:QG G' G):LG E ah c O G:=fun a w S st=>h a w S (st.sub k)
def aS(h:LG E ah c O G):AT E (Exit.then (zA E.r E.P c ah) ah) .normal O G:=h
def aI{id:Nat}(h:AT E ah (.exit id) O G):AT E (Exit.then ax ah) (.exit id) O G:=h
def af(h:AT E ah .ret O G):AT E (Exit.then ax ah) .ret O G:=h
def xF{id:Nat}(h:AT E ah .ret O G):AT E (Exit.inBlock id ah) .ret O G:=h
def bq{id:Nat}(h:AT E ah .normal O G):AT E (Exit.inBlock id ah) .normal O G:=h
def cW{id:Nat}(h:AT E ah .normal O G):AT E (Exit.inBlock id ah) (.exit id) O G:=fun a w S st=>by
 simp only [Exit.inBlock,jo];exact h a w S st
def dc{id id' :Nat}(hne:Nat.beq id' id=false)(h:AT E ah (.exit id') O G):AT E (Exit.inBlock id ah) (.exit id') O G:=fun a w S st=>by
 have:id' ≠id:=fun e=>by subst e;simp at hne
 simp only [Exit.inBlock,this,jQ];exact h a w S st

def AR(S:SH):List Ty->List Value->Prop
 |[],[]=>True
 |t::ts,v::vs=>t.p S v/\AR S ts vs
 |_,_=>False
def AR.mono(h:sj S S'): ∀{ts:List Ty} {vs:List Value},AR S ts vs->AR S' ts vs
 |[],[],_=>trivial
 |t::_,_::_,⟨V,Z⟩=>⟨t.mono h V,AR.mono h Z⟩
def AR.length: ∀{ts:List Ty} {vs:List Value},AR S ts vs->vs.length=ts.length
 |[],[],_=>rfl
 |_::_,_::_,⟨_,Z⟩=>by simp [AR.length Z]
def cI(P:Program)(f:FuncId)(ts:List Ty)(t:Ty):Prop:=
 ∀w S vs,mT w S->AR S ts vs->Calls P f vs.toArray w fun e w' => ∃v S',e= .returned v/\lr wm w S w' S' /\mT w' S' /\t.p S' v
def N1(E:En)(t:Ty):Ending->World->Prop:=fun e w' => ∃v S',e= .returned v/\lr E.B E.w0 E.S0 w' S' /\mT w' S' /\t.p S' v
def Bb(k:Nat):List Ty->mK
 |[]=>[]
 |t::ts=>(k,t)::Bb (k+1) ts
def GU: ∀(ts:List Ty) (k j:Nat) (t:Ty),look (Bb k ts) j=some t-> ∃i,j=k+i/\ts[i]? =some t
 |[],_,_,_,h=>by simp [Bb,look]at h
 |u::ts,k,j,t,h=>by
  unfold Bb look at h
  by_cases Y:Nat.beq k j=true
  ·rw [Y]at h
   exact⟨0,by rw [qL Y];rfl,by simpa using h⟩
  ·rw [Dv]at Y
   rw [Y]at h
   obtain⟨i,V,Z⟩:=GU ts (k+1) j t h
   exact⟨i+1,by omega,by simpa using Z⟩
def AR.at_: ∀{ts:List Ty} {vs:List Value} (_:AR S ts vs) (i:Nat) (t:Ty),ts[i]? =some t-> ∃v,vs[i]? =some v/\t.p S v
 |_::_,v::_,⟨V,_⟩,0,t,h=>⟨v,rfl,by simp at h;rw [<-h];exact V⟩
 |_::ts,_::vs,⟨_,Z⟩,i+1,t,h=>by simpa using AR.at_ Z i t (by simpa using h)
def BR{vs:List Value}(h:AR S ts vs)(n:Nat)(hn:ts.length<=n):
  du ⟨n,[]⟩ S {tmps:=vs.toArray++Array.replicate (n-vs.toArray.size) undef,defers:=[]} (Bb 0 ts):=by
 have hl:=h.length
 refine⟨by simp;omega,rfl,fun j t hj=>?_⟩
 obtain⟨i,e,hi⟩:=GU ts 0 j t hj
 have e' :j=i:=by omega
 subst e'
 obtain⟨v,hv,M⟩:=h.at_ j t hi
 have hlt:j<vs.length:=(ui.1 hv).1
 have:(vs.toArray++Array.replicate (n-vs.toArray.size) undef).getD j undef=v:=by
  rw [KC,Array.getElem?_append_left (by simpa using hlt)]
  simp [hv]
 rw [this];exact M
def Kv{P:Program}(hf:P.funcs[f]? =some fn)(Y:fn.body=some c)(hn:ts.length<=fn.ntmps)(h: ∀w0 S0,CG ⟨P,⟨fn.ntmps,[]⟩,wm,w0,S0,none⟩ (bodyPost P fn (N1 ⟨P,⟨fn.ntmps,[]⟩,wm,w0,S0,none⟩ t)) c [] (Bb 0 ts)):cI P f ts t:=by
 intro w S vs hs hv
 exact yu.1 (callsIn_of_wp (F:=fw none) (n:=0) hf Y trivial (h w S _ w S ⟨lr.refl _ _ _,hs,trivial,BR hv _ hn⟩))
def uv(P:Program)(fn:Func)(k:Nat)(h:fn.results= #[.tmp k])(tmps:Array Value)(w:World):(results fn tmps).run P w= .ok (tmps.getD k undef) w:=by
 simp [results,h]
def aq{P:Program}{N:Nat}{B:Nat->Prop}{w0:World}{S0:SH}(hr:fn.results= #[.tmp k])(hk:look G k=some t):
  AT ⟨P,⟨N,[]⟩,B,w0,S0,none⟩ (bodyPost P fn (N1 ⟨P,⟨N,[]⟩,B,w0,S0,none⟩ t)) .ret O G:=fun _ _ S st=>
 ⟨st.facts.defers,_,uv P fn k hr _ _,_,S,rfl,st.ext,st.sat,st.facts.at_ k t hk⟩
def tT(ts:List Ty):Ty where
 p:=fun S v=> ∃vs,v= .tuple vs.toArray/\AR S ts vs
 mono:=fun h k=>by obtain⟨vs,e,k⟩:=k;exact⟨vs,e,AR.mono h k⟩
def Fc(P:Program)(fn:Func)(j k:Nat)(h:fn.results= #[.tmp j,.tmp k])(tmps:Array Value)(w:World):(results fn tmps).run P w= .ok (.tuple #[tmps.getD j undef,tmps.getD k undef]) w:=by
 simp [results,h]
def cX{P:Program}{N:Nat}{B:Nat->Prop}{w0:World}{S0:SH}{u:Ty}(hr:fn.results= #[.tmp j,.tmp k])(hj:look G j=some t)(hk:look G k=some u):
  AT ⟨P,⟨N,[]⟩,B,w0,S0,none⟩ (bodyPost P fn (N1 ⟨P,⟨N,[]⟩,B,w0,S0,none⟩ (tT [t,u]))) .ret O G:=fun _ _ S st=>
 ⟨st.facts.defers,_,Fc P fn j k hr _ _,_,S,rfl,st.ext,st.sat,[_,_],rfl,st.facts.at_ j t hj,st.facts.at_ k u hk,trivial⟩
end

variable{dst:Option Tmp}
section
variable{E:En}{ty:TypeId}
def cE.of_run(h: ∀a w S,mT w S->dI E.base E.B w S O->du E.N S a G->
  ∃v w' S',(execOp a.eval o).run E.P w= .ok (.value v) w' /\lr wm w S w' S' /\mT w' S' /\t.p S' v)(hd: ∀c,o.op≠ .defer c:=by intro c h;cases h):cE E O G o t:=fun a w S hs ho hf=>by
 obtain⟨v,w',S',hr,he,hs',hv⟩:=h a w S hs ho hf
 refine⟨hd,?_⟩
 rw [hr]
 exact⟨v,S',rfl,he,hs',hv⟩
def cE.of_pure(h: ∀a w S,mT w S->dI E.base E.B w S O->du E.N S a G-> ∃v,(execOp a.eval o).run E.P w= .ok (.value v) w/\t.p S v)(hd: ∀c,o.op≠ .defer c:=by intro c h;cases h):cE E O G o t:=
 .of_run (fun a w S hs ho hf=>let⟨v,hr,hv⟩:=h a w S hs ho hf;⟨v,w,S,hr,lr.refl _ _ _,hs,hv⟩) hd

def bC(A:bf E.N G x t):cE E O G ⟨dst,.move x,ty,pos,after,g⟩ t:=
 .of_pure fun a _ S _ _ hf=>⟨a.eval x,rfl,A S a hf⟩
def cg(A:bf E.N G x t):cE E O G ⟨dst,.assign x,ty,pos,after,g⟩ t:=
 .of_pure fun a _ S _ _ hf=>⟨a.eval x,rfl,A S a hf⟩
def FA{c y:Operand}(hc:bf E.N G c (H rB b))(A:b=true->bf E.N G x t)(hy:b=false->bf E.N G y t):cE E O G ⟨dst,.pick c x y,ty,pos,after,g⟩ t:=
 .of_pure fun a _ S _ _ hf=>by
  have V:a.eval c= .bool b:=jZ.1 (hc S a hf)
  refine⟨if b then a.eval x else a.eval y,by simp [execOp,V,asBool],?_⟩
  cases b with
  |true=>exact A rfl S a hf
  |false=>exact hy rfl S a hf

section
variable{xt yt:TypeId}{y:Operand}{k:IntKind}{m n:Int}
def L8{P:Program}{op:BinOp}{xt:TypeId}{x y:Operand}{k k' :IntKind}{m n:Int}:(eqGuard op xt x y (.int k m) (.int k' n)).run P w= .ok () w:=by
 unfold eqGuard
 cases op<;>rfl
def xV{op:BinOp}(A:bf E.N G x (H (rI k) m))(hy:bf E.N G y (H (rI k) n))(hv: ∀P w,(binOp op xt (.int k m) (.int k n)).run P w= .ok v w)(M: ∀S,t.p S v):
  cE E O G ⟨dst,.binOp op xt x y yt,ty,pos,after,g⟩ t:=
 .of_pure fun a w S _ _ hf=>by
  have V:a.eval x= .int k m:=ge.1 (A S a hf)
  have Z:a.eval y= .int k n:=ge.1 (hy S a hf)
  refine⟨v,?_,M S⟩
  simp [execOp,V,Z,L8,hv]
def fX(A:bf E.N G x (H (rI k) m))(hy:bf E.N G y (H (rI k) n)):cE E O G ⟨dst,.binOp .add xt x y yt,ty,pos,after,g⟩ (H (rI k) (k.wrap (m+n))):=
 xV A hy (fun _ _=>by simp [binOp,Op.intArith]) (fun _=>ge.2 rfl)
def fv(A:bf E.N G x (H (rI k) m))(hy:bf E.N G y (H (rI k) n)):cE E O G ⟨dst,.binOp .sub xt x y yt,ty,pos,after,g⟩ (H (rI k) (k.wrap (m-n))):=
 xV A hy (fun _ _=>by simp [binOp,Op.intArith]) (fun _=>ge.2 rfl)
def JN(A:bf E.N G x (H (rI k) m))(hy:bf E.N G y (H (rI k) n)):cE E O G ⟨dst,.binOp .mul xt x y yt,ty,pos,after,g⟩ (H (rI k) (k.wrap (m*n))):=
 xV A hy (fun _ _=>by simp [binOp,Op.intArith]) (fun _=>ge.2 rfl)
def eP(A:bf E.N G x (H (rI k) m))(hy:bf E.N G y (H (rI k) n)):cE E O G ⟨dst,.binOp .lss xt x y yt,ty,pos,after,g⟩ (H rB (decide (m<n))):=
 xV A hy (fun _ _=>by simp [binOp,Op.intCmp]) (fun _=>jZ.2 rfl)
def kD(A:bf E.N G x (H (rI k) m))(hy:bf E.N G y (H (rI k) n)):cE E O G ⟨dst,.binOp .leq xt x y yt,ty,pos,after,g⟩ (H rB (decide (m<=n))):=
 xV A hy (fun _ _=>by simp [binOp,Op.intCmp]) (fun _=>jZ.2 rfl)
def fa(A:bf E.N G x (H (rI k) m))(hy:bf E.N G y (H (rI k) n)):cE E O G ⟨dst,.binOp .gtr xt x y yt,ty,pos,after,g⟩ (H rB (decide (n<m))):=
 xV A hy (fun _ _=>by simp [binOp,Op.intCmp]) (fun _=>jZ.2 rfl)
def fh(A:bf E.N G x (H (rI k) m))(hy:bf E.N G y (H (rI k) n)):cE E O G ⟨dst,.binOp .geq xt x y yt,ty,pos,after,g⟩ (H rB (decide (n<=m))):=
 xV A hy (fun _ _=>by simp [binOp,Op.intCmp]) (fun _=>jZ.2 rfl)
def mg(A:bf E.N G x (H (rI k) m))(hy:bf E.N G y (H (rI k) n)):cE E O G ⟨dst,.binOp .eql xt x y yt,ty,pos,after,g⟩ (H rB (m==n)):=
 xV A hy (fun _ _=>by simp [binOp,Op.intCmp]) (fun _=>jZ.2 rfl)
def dZ(A:bf E.N G x (H (rI k) m))(hy:bf E.N G y (H (rI k) n)):cE E O G ⟨dst,.binOp .neq xt x y yt,ty,pos,after,g⟩ (H rB (m !=n)):=
 xV A hy (fun _ _=>by simp [binOp,Op.intCmp]) (fun _=>jZ.2 rfl)
def fV(A:bf E.N G x (H rB b)):cE E O G ⟨dst,.unOp .not xt x,ty,pos,after,g⟩ (H rB (!b)):=
 .of_pure fun a w S _ _ hf=>by
  have V:a.eval x= .bool b:=jZ.1 (A S a hf)
  exact⟨.bool (!b),by simp [execOp,V,Op.unary],jZ.2 rfl⟩
def U8{st dt:TypeId}{k' :IntKind}{aE:TypeDesc}(hs:E.P.underlying st=some aE)(hd:E.P.underlying dt=some (.int k'))(A:bf E.N G x (H (rI k) m)):
  cE E O G ⟨dst,.convert st dt x,ty,pos,after,g⟩ (H (rI k') (k'.wrap m)):=
 .of_pure fun a w S _ _ hf=>by
  have V:a.eval x= .int k m:=ge.1 (A S a hf)
  refine⟨.int k' (k'.wrap m),?_,ge.2 rfl⟩
  simp only [execOp,V,convert,sq,ka hs,ka hd,tJ]
  cases aE<;>simp [Conv.intToInt]
end

def xg{P:Program}{t:TypeId}(M:P.underlying t=some .bool)(aE:Nat)(b c:Bool)(w:World):(Op.equalIn (aE+1) t (.bool b) (.bool c)).run P w= .ok (b==c) w:=by
 simp [Op.equalIn,ka M]
def Fv{P:Program}{t:TypeId}{x y:Value}(Y: ∀aE,(Op.equalIn (aE+1) t x y).run P w= .ok b w):(Op.equal t x y).run P w= .ok b w:=Y 9999
section
variable{xt yt:TypeId}{y:Operand}
def FD{c:Bool}(M:E.P.underlying xt=some .bool)(A:bf E.N G x (H rB b))(hy:bf E.N G y (H rB c)):cE E O G ⟨dst,.binOp .eql xt x y yt,ty,pos,after,g⟩ (H rB (b==c)):=
 .of_pure fun a w S _ _ hf=>by
  have V:a.eval x= .bool b:=jZ.1 (A S a hf)
  have Z:a.eval y= .bool c:=jZ.1 (hy S a hf)
  exact⟨.bool (b==c),by simp [execOp,V,Z,eqGuard,binOp,Fv (fun aE=>xg M aE b c w)],jZ.2 rfl⟩
def CS{c:Bool}(M:E.P.underlying xt=some .bool)(A:bf E.N G x (H rB b))(hy:bf E.N G y (H rB c)):cE E O G ⟨dst,.binOp .neq xt x y yt,ty,pos,after,g⟩ (H rB (b !=c)):=
 .of_pure fun a w S _ _ hf=>by
  have V:a.eval x= .bool b:=jZ.1 (A S a hf)
  have Z:a.eval y= .bool c:=jZ.1 (hy S a hf)
  exact⟨.bool (b !=c),by simp [execOp,V,Z,eqGuard,binOp,Fv (fun aE=>xg M aE b c w)];cases b<;>cases c<;>rfl,jZ.2 rfl⟩
def SQ{op:BinOp}{s u:cS}(A:bf E.N G x (H rS s))(hy:bf E.N G y (H rS u))(hv: ∀P w,(Op.stringOp op ⟨s.toArray⟩ ⟨u.toArray⟩).run P w= .ok (.bool b) w)(D: ∀P w,(eqGuard op xt x y (.string ⟨s.toArray⟩) (.string ⟨u.toArray⟩)).run P w= .ok () w)(Y: ∀P w,(binOp op xt (.string ⟨s.toArray⟩) (.string ⟨u.toArray⟩)).run P w=(Op.stringOp op ⟨s.toArray⟩ ⟨u.toArray⟩).run P w):
  cE E O G ⟨dst,.binOp op xt x y yt,ty,pos,after,g⟩ (H rB b):=
 .of_pure fun a w S _ _ hf=>by
  have V:a.eval x= .string ⟨s.toArray⟩:=uo.1 (A S a hf)
  have Z:a.eval y= .string ⟨u.toArray⟩:=uo.1 (hy S a hf)
  refine⟨.bool b,?_,jZ.2 rfl⟩
  simp [execOp,V,Z,D,Y,hv]
def fW{s u:cS}(A:bf E.N G x (H rS s))(hy:bf E.N G y (H rS u)):cE E O G ⟨dst,.binOp .eql xt x y yt,ty,pos,after,g⟩ (H rB (s==u)):=
 SQ A hy (fun _ _=>by simp [Op.stringOp]) (fun _ _=>rfl) (fun _ _=>rfl)
def wk{s u:cS}(A:bf E.N G x (H rS s))(hy:bf E.N G y (H rS u)):cE E O G ⟨dst,.binOp .neq xt x y yt,ty,pos,after,g⟩ (H rB (!(s==u))):=
 SQ A hy (fun _ _=>by simp [Op.stringOp]) (fun _ _=>rfl) (fun _ _=>rfl)
end
end

def S7:TypeDesc->Bool
 | .struct _| .array _ _=>true
 |_=>false
structure TI(P:Program)(T:TypeId)(sz bytes:Nat)(agg:Bool)(z:List Value):Prop where
 info:(P.info? T).map (fun i=>(i.zero.map (·.cells.toList),i.size,i.bytes))=some (some z,sz,bytes)
 ag:(P.underlying T).map S7=some agg
variable{T:TypeId}{z:List Value}
section
variable{P:Program}{sz:Nat}{agg:Bool}
def TI.get(h:TI P T sz bytes agg z): ∃i zv,P.info? T=some i/\i.size=sz/\i.bytes=bytes/\i.zero=some zv/\zv.cells=z.toArray:=by
 have:=h.info
 cases hi:P.info? T with
 |none=>rw [hi]at this;simp at this
 |some i=>
  rw [hi]at this
  simp only [Il,Cn,Prod.mk.injEq,OH]at this
  obtain⟨⟨zv,V,Z⟩,h3,h4⟩:=this
  exact⟨i,zv,rfl,h3,h4,V,by rw [<-Z]⟩
def TI.sizeOf(h:TI P T sz bytes agg z)(w:World):(Go.sizeOf T).run P w= .ok sz w:=by
 obtain⟨i,zv,V,Z,_⟩:=h.get
 simp [Go.sizeOf,typeInfo,V,Z]
def TI.isAgg(h:TI P T sz bytes agg z)(w:World):(Go.isAgg T).run P w= .ok agg w:=by
 have:=h.ag
 cases hi:P.underlying T with
 |none=>rw [hi]at this;simp at this
 |some aE=>
  rw [hi]at this
  simp only [Il,Cn]at this
  simp only [Go.isAgg,sq,ka hi,tJ]
  rw [<-this]
  cases aE<;>simp [S7]
def TI.zero(h:TI P T sz bytes agg z)(w:World): ∃zv,(zeroValue T).run P w= .ok zv w/\zv.cells=z.toArray:=by
 obtain⟨i,zv,V,_,_,h4,h5⟩:=h.get
 exact⟨zv,by simp [zeroValue,typeInfo,V,h4],h5⟩
end

def jD(b off i:Nat):(⟨b,off,none⟩:Addr).add i=⟨b,off+i,none⟩:=by
 unfold Addr.add
 split
 ·simp_all
 ·rfl
def Aw{b:Nat}{c:Array Value}(h:w.heap[b]? =some (.cells c T fr))(i:Nat):w.cell? ⟨b,i,none⟩=c[i]? :=by
 simp [World.cell?,h]
def xf{P:Program}{b n:Nat}{c:Array Value}(h:w.heap[b]? =some (.cells c T fr))(hcs:(c.toList.drop off).take n=cs)(hl:cs.length=n):
  (loadCells ⟨b,off,none⟩ n).run P w= .ok cs.toArray w:=by
 rw [<-hl]
 refine run_loadCells_list w ⟨b,off,none⟩ cs fun j v hv=>?_
 rw [jD,Aw h]
 have hj:j<cs.length:=(ui.1 hv).1
 rw [<-hcs,Dw (by omega),yX]at hv
 simpa using hv
def lT{P:Program}{b:Nat}{c:Array Value}{U:TypeId}{sz:Nat}{agg:Bool}(ti:TI P U sz bytes agg z)(h:w.heap[b]? =some (.cells c T fr)){r:Rp α}(hsz:r.sz=sz)(hag:r.agg=agg){x:α}(A:r.rc S ((c.toList.drop off).take r.sz) x):
  (loadVar U ⟨b,off,none⟩).run P w= .ok (r.val ((c.toList.drop off).take r.sz)) w:=by
 have hl:=r.len A
 subst hsz
 subst hag
 simp only [loadVar,sq,ti.isAgg,tJ]
 cases ha:r.agg with
 |true=>simp [ti.sizeOf,xf h rfl hl,Rp.val,ha]
 |false=>
  have V:=r.sc ha
  have hcell:w.cell? ⟨b,off,none⟩=some (((c.toList.drop off).take r.sz).headD undef):=by
   rw [Aw h]
   rw [V]at hl ⊢
   cases hd:c.toList.drop off with
   |nil=>rw [hd]at hl;simp at hl
   |cons v rest=>
    have:(c.toList.drop off)[0]? =some v:=by rw [hd];rfl
    rw [yX]at this
    simpa using this
  simp [hcell,Rp.val,ha]

variable{ats:Array TypeId}
section
variable{E:En}{ty:TypeId}
def fJ{r:Rp α}{x:α}{U:TypeId}{p:Operand}{sz:Nat}{agg:Bool}(ti:TI E.P U sz bytes agg z)(hsz:r.sz=sz)(hag:r.agg=agg)(hp:bf E.N G p (bt r x)):
  cE E O G ⟨dst,.load U p,ty,pos,after,g⟩ (H r x):=
 .of_pure fun a w S hs _ hf=>by
  obtain⟨b,off,c,T,fr,V,Z,h3⟩:=hp S a hf
  obtain⟨c',h4,h5⟩:=hs.part Z (r.len h3)
  rw [<-h5]at h3
  refine⟨r.val ((c'.toList.drop off).take r.sz),?_,_,rfl,h3⟩
  simp [execOp,V,Instr.loadAt,Instr.sureAddr,lT ti h4 hsz hag h3]

def Qd(s:cS):(ByteArray.mk s.toArray).size=s.length:=by simp [ByteArray.size]
def fN{r:Rp α}{t:TypeId}(M:E.P.underlying t=some (.slice e))(A:bf E.N G x (H (eO r) xs)):
  cE E O G ⟨dst,.call ⟨.builtin .len,#[x],#[t]⟩,ty,pos,after,g⟩ (H (rI .i64) (xs.length:Int)):=
 .of_pure fun a w S _ _ hf=>by
  obtain⟨ad,cap,V,_⟩:=mY.1 (A S a hf)
  refine⟨.int .i64 xs.length,?_,ge.2 rfl⟩
  simp [execOp,resolve,invoke,builtin,Builtin.len_,ka M,V,goInt]
def nQ{s:cS}{t:TypeId}(M:E.P.underlying t=some .string)(A:bf E.N G x (H rS s)):
  cE E O G ⟨dst,.call ⟨.builtin .len,#[x],#[t]⟩,ty,pos,after,g⟩ (H (rI .i64) (s.length:Int)):=
 .of_pure fun a w S _ _ hf=>by
  have V:a.eval x= .string ⟨s.toArray⟩:=uo.1 (A S a hf)
  refine⟨.int .i64 s.length,?_,ge.2 rfl⟩
  simp [execOp,resolve,invoke,builtin,Builtin.len_,ka M,V,goInt,Qd]

def fB{α:Type}(xs:List α)(i:Int):Option α:=if 0<=i then xs[i.toNat]? else none
def kr(xs:List α)(i:Nat):fB xs (i:Int)=xs[i]? :=by simp [fB]
def QJ{r:Rp α}{a:Option Addr}(h:IC r S a xs){x:α}(A:xs[i]? =some x):
  ∃b off c T fr,a=some ⟨b,off,none⟩/\S b=some (.cells c T fr)/\r.rc S ((c.toList.drop (off+i*r.sz)).take r.sz) x:=by
 rcases h with rfl|⟨b,off,c,T,fr,e1,e2,e3⟩
 ·simp at A
 ·refine⟨b,off,c,T,fr,e1,e2,?_⟩
  have h:=CO e3 A
  have hi:i<xs.length:=(ui.1 A).1
  rw [Cj,yD,xH]at h
  have:min r.sz (xs.length*r.sz-i*r.sz)=r.sz:=by
   rw [<-Nat.sub_mul]
   have:1*r.sz<=(xs.length-i)*r.sz:=Bo _ (by omega)
   omega
  rw [this]at h
  exact h
def ev{r:Rp α}{y:α}{ix:Operand}{t:TypeId}{k:IntKind}{i:Int}{sz:Nat}{agg:Bool}(M:E.P.underlying t=some (.slice e))(ti:TI E.P e sz bytes agg z)(hsz:r.sz=sz)(A:bf E.N G x (H (eO r) xs))(hi:bf E.N G ix (H (rI k) i))(hy:fB xs i=some y):
  cE E O G ⟨dst,.indexAddr t x ix,ty,pos,after,g⟩ (bt r y):=
 .of_pure fun a w S _ _ hf=>by
  obtain⟨ad,cap,V,_,_,Z⟩:=mY.1 (A S a hf)
  have h3:a.eval ix= .int k i:=ge.1 (hi S a hf)
  have h0:0<=i:=by unfold fB at hy;split at hy;assumption;cases hy
  have hy' :xs[i.toNat]? =some y:=by unfold fB at hy;rw [cz h0]at hy;exact hy
  have hlt:i.toNat<xs.length:=(ui.1 hy').1
  obtain⟨b,off,c,T,fr,e1,e2,e3⟩:=QJ Z hy'
  subst e1
  refine⟨.pointer (some ⟨b,off+i.toNat*r.sz,none⟩),?_,b,_,c,T,fr,rfl,e2,e3⟩
  have hc:0<=i/\i<(xs.length:Int):=⟨h0,by omega⟩
  simp [execOp,V,h3,Instr.indexAt,asIntOf,ka M,hc,ti.sizeOf,jD,hsz]

def jn{α β:Type}(r:Rp α)(off:Nat)(q:Rp β)(get:α->β):Prop:= ∀S cs x,r.rc S cs x->q.rc S ((cs.drop off).take q.sz) (get x)
def bP(P:Program)(T:TypeId)(i:Nat):Option (Nat×Nat):=
 match P.underlying T with
 |some (.struct fs)=>(fs[i]?).bind fun f=>(P.info? f.type).map fun q=>(f.offset,q.size)
 |_=>none
def DO{P:Program}{sz:Nat}(h:bP P T i=some (off,sz)): ∃fs f,P.underlying T=some (.struct fs)/\fs[i]? =some f/\f.offset=off/\ ∀w,(sizeOf f.type).run P w= .ok sz w:=by
 unfold bP at h
 split at h
 ·rename_i fs hu
  cases hf:fs[i]? with
  |none=>rw [hf]at h;simp at h
  |some f=>
   rw [hf]at h
   cases hq:P.info? f.type with
   |none=>simp [hq]at h
   |some q=>
    simp [hq]at h
    exact⟨fs,f,hu,hf,h.1,fun w=>by simp [sizeOf,typeInfo,hq,h.2]⟩
 ·cases h
def iI{r:Rp α}{q:Rp β}{get:α->β}{x:α}{sz:Nat}{p:Operand}(hf:bP E.P T i=some (off,sz))(h0:Nat.beq sz 0=false)(hq:jn r off q get)(hoff:Nat.ble (off+q.sz) r.sz=true)(hp:bf E.N G p (bt r x)):cE E O G ⟨dst,.fieldAddr T p i,ty,pos,after,g⟩ (bt q (get x)):=
 .of_pure fun a w S _ _ hF=>by
  obtain⟨b,o,c,U,fr,V,Z,h3⟩:=hp S a hF
  obtain⟨fs,f,e1,e2,e3,e4⟩:=DO hf
  have h0' :sz≠0:=fun e=>by subst e;simp at h0
  have hoff' :off+q.sz<=r.sz:=ul hoff
  refine⟨.pointer (some ⟨b,o+off,none⟩),?_,b,_,c,U,fr,rfl,Z,?_⟩
  ·simp [execOp,V,Instr.fieldAt,ka e1,e2,Instr.sureAddr,fieldPlace,e4,h0',e3,jD]
  ·have:=hq S _ x h3
   rw [Cj,yD,xH,Cf (by omega)]at this
   exact this
def ak(P:Program)(f:FuncId):Bool:=
 match P.funcs[f]? with
 |some fn=> !(fn.name== "runtime.NumGoroutine")&&fn.body.isSome
 |none=>false
def ko{P:Program}(h:ak P f=true)(args:Array Value)(w:World):(callFunc f args).run P w= .ok (.enter f args) w:=by
 unfold ak at h
 cases hf:P.funcs[f]? with
 |none=>rw [hf]at h;cases h
 |some fn=>
  rw [hf]at h
  simp only [jR,AI]at h
  have V:fn.name≠ "runtime.NumGoroutine" :=by simpa using h.1
  have Z:fn.body≠none:=fun e=>by rw [e]at h;simp at h
  simp [callFunc,hf,V,Z]
def kL(N:Fr)(G:mK):List Operand->List Ty->Prop
 |[],[]=>True
 |x::xs,t::ts=>bf N G x t/\kL N G xs ts
 |_,_=>False
def kL.tys{N:Fr}(hF:du N S a G): ∀{xs:List Operand} {ts:List Ty},kL N G xs ts->AR S ts (xs.map a.eval)
 |[],[],_=>trivial
 |_::_,_::_,⟨V,Z⟩=>⟨V S a hF,kL.tys hF Z⟩
def bn{xs:List Operand}(hc:ak E.P f=true)(hs:cI E.P f ts t)(A:kL E.N G xs ts):
  cE E O G ⟨dst,.call ⟨.value (.func f),xs.toArray,ats⟩,ty,pos,after,g⟩ t:=fun a w S hS _ hF=>by
 have hr:(execOp a.eval ⟨dst,.call ⟨.value (.func f),xs.toArray,ats⟩,ty,pos,after,g⟩).run E.P w= .ok (.enter f (xs.map a.eval).toArray) w:=by
  simp [execOp,resolve,Act.eval,Deferred.ofValue,invoke,ko hc]
 refine⟨fun c h=>(by cases h),?_⟩
 rw [hr]
 exact(hs w S _ hS (A.tys hF)).mono fun e w' ⟨v,S',he,V,Z,h3⟩=>⟨v,he,v,S',rfl,V,Z,h3⟩
end

def oA{o:Obj}(h:k<w.heap.size):(w.alloc o).heap[k]? =w.heap[k]? :=RowKit.Below.heap_alloc w o k h
def SH.set(S:SH)(b:Nat)(o:Obj):SH:=fun k=>if k=b then some o else S k
def pC(S:SH)(b:Nat)(o:Obj):S.set b o b=some o:=cz rfl
def s8(S:SH){b:Nat}(o:Obj)(h:k≠b):S.set b o k=S k:=cr h
def AA{b:Nat}{o:Obj}(h: ∀q,S b=some q->HT q o):sj S (S.set b o):=fun k q hq=>by
 by_cases hk:k=b
 ·subst hk;exact⟨o,pC _ _ _,h q hq⟩
 ·exact⟨q,by rw [s8 _ _ hk];exact hq,xh q⟩
def mT.set(h:mT w S){b:Nat}{o:Obj}(V:w.heap[b]? =some o')(Z:HT o o')(h3: ∀q,S b=some q->HT q o):mT w (S.set b o):=by
 refine⟨fun k q hq=>?_,fun p hp=>?_,fun w' hw' =>h.tb w' fun k q hq=>?_⟩
 ·by_cases hk:k=b
  ·subst hk
   rw [pC]at hq
   cases hq
   exact⟨o',V,Z⟩
  ·rw [s8 _ _ hk]at hq;exact h k q hq
 ·obtain⟨c,T,fr,g1,g2⟩:=h.gl p hp
  by_cases hk:p.1=b
  ·subst hk
   obtain⟨aE,hd⟩:=h3 _ g1
   refine⟨_,T,fr,by rw [pC,hd],?_⟩
   rw [List.toList_toArray,zb ?_]
   ·exact g2
   ·have:=congrArg List.length g2
    rw [Bk]at this
    omega
  ·exact⟨c,T,fr,by rw [s8 _ _ hk];exact g1,g2⟩
 ·by_cases hk:k=b
  ·subst hk
   obtain⟨o1,g1,g2⟩:=hw' k o (pC _ _ _)
   exact⟨o1,g1,IR (h3 q hq) g2⟩
  ·exact hw' k q (by rw [s8 _ _ hk];exact hq)
def lH(o:Obj)(hs:mT w S):lr wm w S (w.alloc o) S/\mT (w.alloc o) S/\S w.heap.size=none:=by
 refine⟨⟨rfl,rfl,rfl,gc _,by simp,fun k hk _=>oA hk,SH.le_refl _,fun _ _ _=>rfl⟩,hs.same fun b q Y=>oA (hs.lt Y),?_⟩
 cases h:S w.heap.size with
 |none=>rfl
 |some q=>have:=hs.lt h;omega
def wJ(o:Obj)(hs:mT w S):lr wm w S (w.alloc o) (S.set w.heap.size o)/\mT (w.alloc o) (S.set w.heap.size o):=by
 obtain⟨V,Z,h3⟩:=lH o hs
 refine⟨⟨rfl,rfl,rfl,gc _,by simp,fun k hk _=>oA hk,AA fun q hq=>(by rw [h3]at hq;cases hq),fun k hk _=>s8 _ _ (by omega)⟩,Z.set (AS w o) (xh o) fun q hq=>by rw [h3]at hq;cases hq⟩
def Dt(hs:mT w S):lr wm w S w.drew S/\mT w.drew S:=⟨⟨rfl,rfl,rfl,Nat.le_succ _,gc _,fun _ _ _=>rfl,SH.le_refl _,fun _ _ _=>rfl⟩,hs.same fun _ _ _=>rfl⟩

def J(l:Option Nat)(cap n:Nat):Value:=
 match l with
 |none=> .slice none 0 0
 |some b=> .slice (some ⟨b,0,none⟩) n cap
def Bg(w:World)(T:TypeId)(sz:Nat)(l:Option Nat)(cap n:Nat)(cells:List Value):Prop:=
 match l with
 |none=>n=0/\cells=[]
 |some b=> ∃cur,w.heap[b]? =some (.cells cur T (0,0))/\n<=cap/\cap<=maxLen/\cur.size=cap*sz/\cur.toList.take (n*sz)=cells
def AQ{α:Type}(m:Bool)(r:Rp α)(T:TypeId)(l:Option Nat)(cap:Nat)(xs:List α)(w:World)(S:SH):Prop:=
 ∃cells,Bg w T r.sz l cap xs.length cells/\uh r S cells xs/\ ∀b,l=some b->S b=if m then some (.cells cells.toArray T (0,0))else none
def Bg.lt{sz b n:Nat}(h:Bg w T sz (some b) cap n cells):b<w.heap.size:=by
 obtain⟨cur,V,_⟩:=h
 exact(Bq.1 V).1
def Bg.ext{sz n:Nat}(h:Bg w T sz l cap n cells)(k: ∀b,l=some b->w'.heap[b]? =w.heap[b]?):Bg w' T sz l cap n cells:=by
 cases l with
 |none=>exact h
 |some b=>
  obtain⟨cur,V,Z⟩:=h
  exact⟨cur,by rw [k b rfl];exact V,Z⟩
def mj{α:Type}(m:Bool)(r:Rp α)(T:TypeId)(l:Option Nat)(cap:Nat)(xs:List α):OE where
 fp:=fun k=>l=some k
 p:=AQ m r T l cap xs
 here:=by
  intro w S h k hk
  subst hk
  obtain⟨cells,V,_⟩:=h
  exact V.lt
 kept:=by
  intro C w w' S S' h k hC
  obtain⟨cells,V,Z,h3⟩:=h
  refine⟨cells,V.ext fun b Y=>?_,tY k.keep Z,fun b Y=>?_⟩
  ·subst Y;exact k.heap b V.lt (hC b rfl)
  ·subst Y;rw [k.old b V.lt (hC b rfl)];exact h3 b rfl
abbrev gb{α:Type}(r:Rp α)(T:TypeId)(l:Option Nat)(cap:Nat)(xs:List α):OE:=mj false r T l cap xs
abbrev K{α:Type}(r:Rp α)(T:TypeId)(l:Option Nat)(cap:Nat)(xs:List α):OE:=mj true r T l cap xs
def oI{α:Type}(xs ys:List α):Option (List α):=if xs.length+ys.length<=68719476736 then some (xs++ys)else none
variable{zs:List α}
def Uh(h:oI xs ys=some zs):zs=xs++ys/\xs.length+ys.length<=68719476736:=by
 unfold oI at h
 split at h
 ·exact⟨by simpa using h.symm,by assumption⟩
 ·cases h
variable{news:List Value}
def AN{P:Program}{t tx ty:TypeId}{i:TypeInfo}(M:P.underlying t=some (.slice e))(hi:P.info? e=some i){g sLen sCap:Nat}{cur:Array Value}(D:w.heap[g]? =some (.cells cur e (0,0))){x:Value}{n:Nat}(hs:Src P i.size tx x n news w)(hroom:sLen+n<=sCap)(hfit:sLen*i.size+news.length<=cur.size):
  (Builtin.append_ #[t,tx] ty #[.slice (some ⟨g,0,none⟩) sLen sCap,x]).run P w=
   .ok (.slice (some ⟨g,0,none⟩) (sLen+n) sCap) (w.setRow g (cur.toList.take (sLen*i.size)++news++cur.toList.drop (sLen*i.size+news.length)).toArray):=by
 have hst:=run_storeCells_at P g (sLen*i.size) e news 0 cur w D (by simpa using hfit) hs.one
 simp only [FU]at hst
 rcases hs.kind with⟨e',hk⟩|hk<;>simp [Builtin.append_,ka M,ka hk,sizeOf,typeInfo,hi,hs.len,hroom,hs.cells,Addr.add_lit,hst]
structure XE(l:Option Nat)(w w' :World):Prop where
 os:w'.os=w.os
 tape:w'.tape=w.tape
 output:w'.output=w.output
 drawn:w.drawn<=w'.drawn
 size:w.heap.size<=w'.heap.size
 heap: ∀k,k<w.heap.size->l≠some k->w'.heap[k]? =w.heap[k]?
variable{t' :TypeId}
def Gx{P:Program}{t ty:TypeId}{sz:Nat}{agg:Bool}{n m:Nat}{x:Value}(ti:TI P T sz bytes agg z)(hz:Nat.beq z.length sz=true)(h0:Nat.blt 0 sz=true)(h128:Nat.ble bytes 2048=true)(M:P.underlying t=some (.slice T))(h:Bg w T sz l cap n cells)(hs:Src P sz t' x m news w)(hlen:n+m<=68719476736):
  ∃l' cap' w',(Builtin.append_ #[t,t'] ty #[J l cap n,x]).run P w= .ok (J l' cap' (n+m)) w' /\Bg w' T sz l' cap' (n+m) (cells++news)/\XE l w w' /\(∀b,l' =some b->l=some b\/w.heap.size<=b)/\(∀b,l=some b->l' ≠some b->w'.heap[b]? =w.heap[b]?):=by
 obtain⟨i,zv,hi,V,Z,h3,h4⟩:=ti.get
 have h128' :=ul h128
 have h0' :0<sz:=by simpa [tK] using h0
 have hz2:z.length=sz:=qL hz
 subst V
 have hnl:=hs.newsLen
 have hbytes:(n+m)*i.bytes<=140737488355328:=oc (Nat.mul_le_mul hlen (by omega:i.bytes<=2048)) (by omega)
 by_cases hm:m=0
 ·subst hm
  have hn0:news=[]:=za (by simpa using hnl)
  subst hn0
  refine⟨l,cap,w,?_,by simpa using h,⟨rfl,rfl,rfl,gc _,gc _,fun _ _ _=>rfl⟩,fun b Y=> .inl Y,fun b _ _=>rfl⟩
  cases l with
  |none=>
   obtain⟨rfl,_⟩:=h
   exact run_append_nothing w t t' ty T i M hi none 0 0 (gc _) _ hs
  |some b=>
   obtain⟨cur,_,hle,_⟩:=h
   exact run_append_nothing w t t' ty T i M hi (some ⟨b,0,none⟩) n cap hle _ hs
 have Yl: ∀old,old<n+m->Builtin.nextslicecap (n+m) old*i.bytes<=281474976710656:=fun old ho=>growslice_fits ho hbytes
 -- a new row
 have fresh: ∀(base:Option Addr) (olds:List Value),J l cap n= .slice base n cap->olds=cells->cap<n+m->(Builtin.firstCells i.size n (.slice base n cap)).run P w.drew= .ok olds.toArray w.drew->cells.length=n*i.size->
   ∃l' cap' w',(Builtin.append_ #[t,t'] ty #[J l cap n,x]).run P w= .ok (J l' cap' (n+m)) w' /\Bg w' T i.size l' cap' (n+m) (cells++news)/\XE l w w' /\(∀b,l' =some b->l=some b\/w.heap.size<=b)/\(∀b,l=some b->l' ≠some b->w'.heap[b]? =w.heap[b]?):=by
  intro base olds hv he D hf hcl
  subst he
  have hr:=run_append_grow_src (P:=P) w t t' ty T i zv M hi h3 base n cap olds hf x m news hs D (by omega) (Yl cap D)
  have hge:=grownCap_ge w (n+m) cap T
  rw [<-hv]at hr
  refine⟨some w.heap.size,grownCap w (n+m) cap T,_,hr,⟨_,AS w.drew _,hge,grownCap_le_maxLen _ _ _ _ (by simp only [maxLen];omega),?_,?_⟩,⟨rfl,rfl,rfl,Nat.le_succ _,by simp,fun k hk _=>?_⟩,fun b Y=> .inr (Ey (ro Y)),fun b Y _=>?_⟩
  ·have:(Builtin.zeroCells zv.cells (grownCap w (n+m) cap T-(n+m))).size=(grownCap w (n+m) cap T-(n+m))*i.size:=by
    rw [size_zeroCells,h4];simp [hz2]
   simp only [Array.size_append,FX,pF,hcl,hnl,this]
   rw [<-AE,<-AE]
   congr 1;omega
  ·have hl2:(olds++news).length=(n+m)*i.size:=by rw [pF,hcl,hnl,AE]
   rw [Array.toList_append,zb (by simp only [List.toList_toArray];omega)]
   simp only [List.toList_toArray]
   exact rt (by omega)
  ·exact oA (w:=w.drew) hk
  ·cases l with
   |none=>cases Y
   |some b0=>
    have hb' :b0=b:=ro Y
    subst hb'
    exact oA (w:=w.drew) (Bg.lt h)
 cases l with
 |none=>
  obtain⟨rfl,rfl⟩:=h
  have:=run_append_grow_src (P:=P) w t t' ty T i zv M hi h3 none 0 0 [] (run_firstCells_none w.drew i.size 0 0 0) x m news hs (by omega) (by omega) (Yl 0 (by omega))
  have hge:=grownCap_ge w (0+m) 0 T
  refine⟨some w.heap.size,grownCap w (0+m) 0 T,_,this,⟨_,AS w.drew _,hge,grownCap_le_maxLen _ _ _ _ (by simp only [maxLen];omega),?_,?_⟩,⟨rfl,rfl,rfl,Nat.le_succ _,by simp,fun k hk _=>?_⟩,fun b Y=> .inr (Ey (ro Y)),fun b Y=>(by cases Y)⟩
  ·have:(Builtin.zeroCells zv.cells (grownCap w (0+m) 0 T-(0+m))).size=(grownCap w (0+m) 0 T-(0+m))*i.size:=by
    rw [size_zeroCells,h4];simp [hz2]
   simp only [Array.size_append,FX,qg,hnl,this]
   rw [<-AE]
   congr 1;omega
  ·rw [Array.toList_append,zb (by simp [hnl])]
   simp only [qg,sB]
   exact rt (by omega)
  ·exact oA (w:=w.drew) hk
 |some b=>
  obtain⟨cur,Y,hle,hmax,hcs,hct⟩:=h
  have hcl:cells.length=n*i.size:=by
   rw [<-hct,Bk,HU,hcs]
   exact Cf (Bo _ hle)
  by_cases hroom:n+m<=cap
  ·have hfit:n*i.size+news.length<=cur.size:=by rw [hnl,hcs,<-AE];exact Bo _ hroom
   have hr:=AN (t:=t) (tx:=t') (ty:=ty) M hi Y hs hroom hfit
   refine⟨some b,cap,_,hr,⟨_,setRow_heap w b cur _ T _ Y,hroom,hmax,?_,?_⟩,⟨rfl,rfl,rfl,gc _,by simp [World.setRow],fun k hk hkb=>setRow_other w b k _ (fun e=>hkb (by rw [e]))⟩,fun b' hb' => .inl hb',fun b' hb' hne=>absurd hb' hne⟩
   ·simp only [FX,pF,Bk,Cl,HU]
    omega
   ·rw [hct,AE,<-hnl,<-hcl,show cells.length+news.length=(cells++news).length from by simp]
    exact List.take_left
  ·refine fresh (some ⟨b,0,none⟩) cells rfl rfl (by omega) (run_firstCells_some w.drew i.size n ⟨b,0,none⟩ n cap cells hcl fun j v hv=>?_) hcl
   have hj:j<cells.length:=(ui.1 hv).1
   have hcell:w.cell? ⟨b,j,none⟩=cur[j]? :=Aw Y j
   rw [jD]
   show w.cell? ⟨b,0+j,none⟩=_
   rw [sB,hcell]
   rw [<-hct,Dw (by omega)]at hv
   simpa using hv
def zi{P:Program}{r:Rp α}{e' :TypeId}(M:P.underlying t' =some (.slice e'))(hs:mT w S)(hv:(H (eO r) ys).p S v): ∃news,Src P r.sz t' v ys.length news w/\uh r S news ys:=by
 obtain⟨ad,c2,rfl,hcap,hmax,hsl⟩:=mY.1 hv
 rcases hsl with rfl|⟨b,off,c,U,fr,e1,e2,e3⟩
 ·refine⟨[],?_,rfl⟩
  cases ad with
  |none=>exact .ofNil w M c2
  |some a=>exact .ofSlice w M a 0 c2 [] (by simp) (fun j u hu=>by simp at hu) (fun u hu=>by cases hu)
 ·subst e1
  obtain⟨c',h4,h5⟩:=hs.part e2 (mF e3)
  refine⟨_,.ofSlice w M ⟨b,off,none⟩ ys.length c2 _ (mF e3) (fun j u hu=>?_) (CM e3),e3⟩
  rw [jD,Aw h4]
  rw [<-h5]at hu
  have hj:j<ys.length*r.sz:=by
   have:=(ui.1 hu).1
   simp at this;omega
  rw [Dw hj,yX]at hu
  simpa using hu
variable{mm:Bool}
def zr{P:Program}{r:Rp α}{t ty:TypeId}{sz:Nat}{agg:Bool}{base:Nat}{B:Nat->Prop}(ti:TI P T sz bytes agg z)(hsz:r.sz=sz)(hz:Nat.beq z.length sz=true)(h0:Nat.blt 0 sz=true)(h128:Nat.ble bytes 2048=true)(M:P.underlying t=some (.slice T))(hs:mT w S)(h:(mj mm r T l cap xs).holds base B w S)(Y:base<=w.heap.size)(hsrc:Src P r.sz t' v ys.length news w)(hrc:uh r S news ys)(hz' :oI xs ys=some zs):
  ∃l' cap' w' S',(Builtin.append_ #[t,t'] ty #[J l cap xs.length,v]).run P w= .ok (J l' cap' zs.length) w' /\lr (fun k=>l=some k) w S w' S' /\mT w' S' /\(mj mm r T l' cap' zs).holds base B w' S' /\(∀b,l' =some b->l=some b\/w.heap.size<=b):=by
 subst hsz
 obtain⟨rfl,hlen⟩:=Uh hz'
 obtain⟨⟨cells,V,Z,h3⟩,hbase⟩:=h
 obtain⟨l',cap',w',hr,hraw,D,hnew,hold⟩:=Gx (ty:=ty) ti hz h0 h128 M V hsrc hlen
 have hrc' :uh r S (cells++news) (xs++ys):=vx Z hrc
 -- what stood settled stands
 have hsat0: ∀k o,S k=some o-> ∃o',w'.heap[k]? =some o' /\HT o o' :=fun k o hk=>by
  have hlt:=hs.lt hk
  by_cases hkl:l=some k
  ·obtain⟨o',e1,e2⟩:=hs k o hk
   by_cases hkl' :l' =some k
   ·subst hkl'
    subst hkl
    have h3' :=h3 k rfl
    cases mm with
    |false=>rw [h3']at hk;cases hk
    |true=>
     rw [h3']at hk
     cases hk
     obtain⟨cur',g1,g2,g3,g4,g5⟩:=hraw
     refine⟨_,g1,?_⟩;refine⟨news++cur'.toList.drop ((xs.length+ys.length)*r.sz),?_⟩
     congr 1
     apply Array.ext'
     rw [<-gK,<-g5,uH]
   ·rw [hold k hkl hkl'];exact hs k o hk
  ·rw [D.heap k hlt hkl];exact hs k o hk
 have hsat:mT w' S:=⟨hsat0,hs.gl,hs.tb⟩
 have hSn: ∀b,l' =some b->l≠some b->S b=none:=fun b hb' hne=>by
  cases hq:S b with
  |none=>rfl
  |some q=>
   have:=hs.lt hq
   rcases hnew b hb' with h|h
   ·exact absurd h hne
   ·omega
 have hbase' : ∀k,l' =some k->base<=k\/B k:=fun k hk=>by
  rcases hnew k hk with h|h
  ·exact hbase k h
  ·exact .inl (by omega)
 have hz2:(xs++ys).length=xs.length+ys.length:=pF
 cases mm with
 |false=>
  refine⟨l',cap',w',S,by rw [hz2];exact hr,⟨D.os,D.tape,D.output,D.drawn,D.size,fun k hk hkb=>D.heap k hk hkb,SH.le_refl _,fun _ _ _=>rfl⟩,hsat,⟨⟨cells++news,by rw [hz2];exact hraw,hrc',fun b hb' =>?_⟩,hbase'⟩,hnew⟩
  by_cases hlb:l=some b
  ·exact h3 b hlb
  ·exact hSn b hb' hlb
 |true=>
  cases l' with
  |none=>
   refine⟨none,cap',w',S,by rw [hz2];exact hr,⟨D.os,D.tape,D.output,D.drawn,D.size,fun k hk hkb=>D.heap k hk hkb,SH.le_refl _,fun _ _ _=>rfl⟩,hsat,⟨⟨cells++news,by rw [hz2];exact hraw,hrc',fun b hb' =>(by cases hb')⟩,hbase'⟩,hnew⟩
  |some g=>
   have hq3: ∀q,S g=some q->HT q (.cells (cells++news).toArray T (0,0)):=fun q hq=>by
    by_cases hlb:l=some g
    ·have h4:S g=some (.cells cells.toArray T (0,0)):=h3 g hlb
     rw [h4]at hq
     cases hq
     exact⟨news,by simp⟩
    ·rw [hSn g rfl hlb]at hq;cases hq
   have hle:sj S (S.set g (.cells (cells++news).toArray T (0,0))):=AA hq3
   obtain⟨cur',g1,g2,g3,g4,g5⟩:=hraw
   refine⟨some g,cap',w',S.set g (.cells (cells++news).toArray T (0,0)),by rw [hz2];exact hr,⟨D.os,D.tape,D.output,D.drawn,D.size,fun k hk hkb=>D.heap k hk hkb,hle,fun k hk hkb=>s8 _ _ ?_⟩,hsat.set g1 ?_ hq3,⟨⟨cells++news,by rw [hz2];exact⟨cur',g1,g2,g3,g4,g5⟩,tY hle hrc',fun b hb' =>?_⟩,hbase'⟩,hnew⟩
   ·rintro rfl
    rcases hnew k rfl with h|h
    ·exact hkb h
    ·omega
   ·refine⟨cur'.toList.drop ((xs.length+ys.length)*r.sz),?_⟩
    congr 1
    apply Array.ext'
    rw [<-g5,uH]
   ·have hb2:g=b:=ro hb'
    subst hb2
    exact pC _ _ _

def Oi{e f:OE}(h:e.apart f):f.apart e:=fun b Y he=>h b he Y
def dI.swap{base:Nat}{B:Nat->Prop}{e f:OE}(h:dI base B w S (e::f::O)):dI base B w S (f::e::O):=by
 obtain⟨V,Z,h3,h4,h5⟩:=h
 refine⟨h3,?_,V,?_,h5⟩
 ·intro g D
  rcases gw.1 D with rfl|D
  ·exact Oi (Z _ (oa ..))
  ·exact h4 g D
 ·intro g D
  exact Z g (oD _ D)
def nB{base:Nat}{B:Nat->Prop}{e:OE}{O' :List OE}(h:dI base B w S (e::O))(k:dI base B w S O->dI base B w S O')(hm: ∀f∈O',f∈O):dI base B w S (e::O'):=
 ⟨h.1,fun f hf=>h.2.1 f (hm f hf),k h.2.2⟩
def te{base:Nat}{B:Nat->Prop}{a b c:OE}(h:dI base B w S (a::b::c::O)):dI base B w S (c::a::b::O):=
 (nB h dI.swap (fun f hf=>by simp only [gw]at hf ⊢;rcases hf with h|h|h<;>simp [h])).swap
def vQ{base:Nat}{B:Nat->Prop}{a b c aE:OE}(h:dI base B w S (a::b::c::aE::O)):dI base B w S (aE::a::b::c::O):=
 (nB h te (fun f hf=>by simp only [gw]at hf ⊢;rcases hf with h|h|h|h<;>simp [h])).swap
def vP{base:Nat}{B:Nat->Prop}{a b c aE e:OE}(h:dI base B w S (a::b::c::aE::e::O)):dI base B w S (e::a::b::c::aE::O):=
 (nB h vQ (fun f hf=>by simp only [gw]at hf ⊢;rcases hf with h|h|h|h|h<;>simp [h])).swap

section
variable{E:En}
def St.own_map{O' :List OE}(h:St E O G a w S)(k:dI E.base E.B w S O->dI E.base E.B w S O'):St E O' G a w S:=⟨h.ext,h.sat,k h.own,h.facts⟩
def St.base_le(h:St E O G a w S):E.base<=w.heap.size:=h.ext.size
def St.drop{e:OE}(h:St E (e::O) G a w S):St E O G a w S:=h.own_map fun h=>h.2.2
def St.fresh(mm:Bool)(r:Rp α)(T:TypeId)(h:St E O G a w S):St E (mj mm r T none 0 []::O) G a w S:=
 h.own_map fun h=>by refine⟨⟨⟨[],⟨rfl,rfl⟩,rfl,fun b Y=>(by cases Y)⟩,fun k hk=>?_⟩,fun f _ b Y=>?_,h⟩<;>(first|cases hk|cases Y)
def BD{e:OE}{b:Nat}{o:Obj}(h:St E (e::O) G a w S)(Y:e.fp b)(ho:w.heap[b]? =some o')(hoo:HT o o')(hn:S b=none):St E O G a w (S.set b o)/\sj S (S.set b o)/\lr (fun k=>k=b) w S w (S.set b o)/\mT w (S.set b o):=by
 have hbase:=h.own.1.2 b Y
 have hle:sj S (S.set b o):=AA fun q hq=>(by rw [hn]at hq;cases hq)
 have hsat:mT w (S.set b o):=h.sat.set ho hoo fun q hq=>by rw [hn]at hq;cases hq
 have hext:lr (fun k=>k=b) w S w (S.set b o):=⟨rfl,rfl,rfl,gc _,gc _,fun _ _ _=>rfl,hle,fun k _ hk=>s8 _ _ hk⟩
 refine⟨⟨h.ext.step hext fun c hc=>by subst hc;exact hbase,hsat,h.own.2.2.ext hext fun f hf c hc hm=>?_,h.facts.mono hle⟩,hle,hext,hsat⟩
 subst hm
 exact h.own.2.1 f hf c Y hc
def tO{α:Type}(r:Rp α)(l:Option Nat)(cap:Nat)(xs:List α):Ty where
 p:=fun S v=>v=J l cap xs.length/\(H (eO r) xs).p S v
 mono:=fun h ⟨V,Z⟩=>⟨V,Ty.mono _ h Z⟩
def tQ{N:Fr}{G:mK}{r:Rp α}(h:bf N G x (tO r l cap xs)):bf N G x (tV (J l cap xs.length)):=fun S a hf=>(h S a hf).1
def kB{N:Fr}{G:mK}{r:Rp α}(h:bf N G x (tO r l cap xs)):bf N G x (H (eO r) xs):=fun S a hf=>(h S a hf).2
def m7{r:Rp α}{w:World}{S:SH}(h:AQ true r T l cap xs w S):(H (eO r) xs).p S (J l cap xs.length):=by
 obtain⟨cells,V,Z,h3⟩:=h
 cases l with
 |none=>
  have A:xs=[]:=za V.1
  subst A
  exact Cu
 |some b=>
  obtain⟨cur,g1,g2,g3,g4,g5⟩:=V
  refine mY.2 ⟨_,cap,rfl,g2,g3,.inr ⟨b,0,cells.toArray,T,(0,0),rfl,h3 b rfl,?_⟩⟩
  have:=mF Z
  rw [sC,rt (by simp [this])]
  exact Z
def St.freeze{r:Rp α}(h:St E (gb r T l cap xs::O) G a w S):
  ∃S',St E (K r T l cap xs::O) G a w S' :=by
 obtain⟨⟨cells,V,Z,h3⟩,hbase⟩:=h.own.1
 cases l with
 |none=>exact⟨S,h.ext,h.sat,⟨⟨⟨cells,V,Z,fun b Y=>(by cases Y)⟩,hbase⟩,h.own.2⟩,h.facts⟩
 |some b=>
  obtain⟨cur,g1,g2,g3,g4,g5⟩:=V
  have hoo:HT (.cells cells.toArray T (0,0)) (.cells cur T (0,0)):=by
   refine⟨cur.toList.drop (xs.length*r.sz),?_⟩
   congr 1
   apply Array.ext'
   rw [<-g5,uH]
  obtain⟨h8,hle,_,_⟩:=BD h rfl g1 hoo (h3 b rfl)
  refine⟨_,h8.ext,h8.sat,⟨⟨⟨cells,⟨cur,g1,g2,g3,g4,g5⟩,tY hle Z,fun b' hb' =>?_⟩,hbase⟩,h.own.2.1,h8.own⟩,h8.facts⟩
  have hb2:b=b' :=ro hb'
  subst hb2
  exact pC _ _ _
def St.settle{r:Rp α}(h:St E (mj mm r T l cap xs::O) G a w S):
  ∃S',St E O G a w S' /\(H (eO r) xs).p S' (J l cap xs.length):=by
 cases mm with
 |true=>exact⟨S,h.drop,m7 h.own.1.1⟩
 |false=>
  obtain⟨S',V⟩:=h.freeze
  exact⟨S',V.drop,m7 V.own.1.1⟩
end

section
variable{E:En}{e:Exit}
def NQ{N:Fr}(h:du N S a G)(hk:t.p S (a.tmps.getD k undef)):du N S a ((k,t)::G):=
 ⟨h.size,h.defers,fun j u hj=>by
  unfold look at hj
  by_cases Y:Nat.beq k j=true
  ·rw [Y]at hj
   have:=qL Y
   subst this
   rw [<-show t=u from by simpa using hj];exact hk
  ·rw [Dv]at Y
   rw [Y]at hj
   exact h.at_ j u hj⟩
def St.cons(h:St E O G a w S)(hk:t.p S (a.tmps.getD k undef)):St E O ((k,t)::G) a w S:=⟨h.ext,h.sat,h.own,NQ h.facts hk⟩
def St.tipAt{r:Rp α}{n:Nat}(h:St E (K r T l cap xs::O) G a w S)(hk:look G k=some (tV (J l cap n)))(hn:n=xs.length):
  St E (K r T l cap xs::O) ((k,tO r l cap xs)::G) a w S:=by
 subst hn
 have hv:a.tmps.getD k undef=J l cap xs.length:=h.facts.at_ k _ hk
 exact h.cons ⟨hv,by rw [hv];exact m7 h.own.1.1⟩
def cj(mm:Bool)(r:Rp α)(T:TypeId)(h:RG E ops ah rest (mj mm r T none 0 []::O) G):RG E ops ah rest O G:=fun a w S st=>h a w S (st.fresh mm r T)
def tH{f:OE}(h:RG E ops ah rest O G):RG E ops ah rest (f::O) G:=fun a w S st=>h a w S st.drop
def CG.drop{f:OE}(h:CG E ah c O G):CG E ah c (f::O) G:=fun a w S st=>h a w S st.drop
def aM{f:OE}(h:AT E ah e O G):AT E ah e (f::O) G:=fun a w S st=>h a w S st.drop
def dW{x y:OE}(h:RG E ops ah rest (y::x::O) G):RG E ops ah rest (x::y::O) G:=fun a w S st=>h a w S (st.own_map dI.swap)
def Jr{x y:OE}(h:CG E ah c (y::x::O) G):CG E ah c (x::y::O) G:=fun a w S st=>h a w S (st.own_map dI.swap)
def dM{x y:OE}(h:AT E ah e (y::x::O) G):AT E ah e (x::y::O) G:=fun a w S st=>h a w S (st.own_map dI.swap)
def ib{x y z:OE}(h:RG E ops ah rest (z::x::y::O) G):RG E ops ah rest (x::y::z::O) G:=fun a w S st=>h a w S (st.own_map te)
def RZ{x y z:OE}(h:CG E ah c (z::x::y::O) G):CG E ah c (x::y::z::O) G:=fun a w S st=>h a w S (st.own_map te)
def gu{x y z:OE}(h:AT E ah e (z::x::y::O) G):AT E ah e (x::y::z::O) G:=fun a w S st=>h a w S (st.own_map te)
def kh{x y z:OE}(h:RG E ops ah rest (u::x::y::z::O) G):RG E ops ah rest (x::y::z::u::O) G:=fun a w S st=>h a w S (st.own_map vQ)
def kj{x y z:OE}(h:AT E ah e (u::x::y::z::O) G):AT E ah e (x::y::z::u::O) G:=fun a w S st=>h a w S (st.own_map vQ)
def p5{x y z v:OE}(h:RG E ops ah rest (v::x::y::z::u::O) G):RG E ops ah rest (x::y::z::u::v::O) G:=fun a w S st=>h a w S (st.own_map vP)
def eb{x y z v:OE}(h:AT E ah e (v::x::y::z::u::O) G):AT E ah e (x::y::z::u::v::O) G:=fun a w S st=>h a w S (st.own_map vP)
def yA{f:OE}(h:LG E ah c O G):LG E ah c (f::O) G:=fun a w S st=>h a w S st.drop
def ie{x y:OE}(h:LG E ah c (y::x::O) G):LG E ah c (x::y::O) G:=fun a w S st=>h a w S (st.own_map dI.swap)
def ki{x y z:OE}(h:LG E ah c (z::x::y::O) G):LG E ah c (x::y::z::O) G:=fun a w S st=>h a w S (st.own_map te)
def rm{x y z:OE}(h:LG E ah c (u::x::y::z::O) G):LG E ah c (x::y::z::u::O) G:=fun a w S st=>h a w S (st.own_map vQ)
def Et{x y z v:OE}(h:LG E ah c (v::x::y::z::u::O) G):LG E ah c (x::y::z::u::v::O) G:=fun a w S st=>h a w S (st.own_map vP)
def p6{r:Rp α}(h:RG E ops ah rest (K r T l cap xs::O) G):RG E ops ah rest (gb r T l cap xs::O) G:=fun a w _ st=>let⟨S',st'⟩:=st.freeze;h a w S' st'
def xB{r:Rp α}{n:Nat}(k:Nat)(hk:look G k=some (tV (J l cap n)))(h:RG E ops ah rest (K r T l cap xs::O) ((k,tO r l cap xs)::G))(hn:n=xs.length:=by rfl):RG E ops ah rest (K r T l cap xs::O) G:=fun a w S st=>h a w S (st.tipAt hk hn)
def Uu{r:Rp α}{n:Nat}(k:Nat)(hk:look G k=some (tV (J l cap n)))(h:CG E ah c (K r T l cap xs::O) ((k,tO r l cap xs)::G))(hn:n=xs.length:=by rfl):CG E ah c (K r T l cap xs::O) G:=fun a w S st=>h a w S (st.tipAt hk hn)
def tg{r:Rp α}(h:AT E ah e (K r T l cap xs::O) G):AT E ah e (gb r T l cap xs::O) G:=fun a w _ st=>let⟨S',st'⟩:=st.freeze;h a w S' st'
def jj{r:Rp α}{n:Nat}(k:Nat)(hk:look G k=some (tV (J l cap n)))(h:AT E ah e (K r T l cap xs::O) ((k,tO r l cap xs)::G))(hn:n=xs.length:=by rfl):AT E ah e (K r T l cap xs::O) G:=fun a w S st=>h a w S (st.tipAt hk hn)
def Eu{r:Rp α}(h:LG E ah c (K r T l cap xs::O) G):LG E ah c (gb r T l cap xs::O) G:=fun a w _ st=>let⟨S',st'⟩:=st.freeze;h a w S' st'
def HM{r:Rp α}{n:Nat}(k:Nat)(hk:look G k=some (tV (J l cap n)))(h:LG E ah c (K r T l cap xs::O) ((k,tO r l cap xs)::G))(hn:n=xs.length:=by rfl):LG E ah c (K r T l cap xs::O) G:=fun a w S st=>h a w S (st.tipAt hk hn)
def aO{r:Rp α}(hk:look G k=some (H (eO r) xs))(h:xs.length<=maxLen->CG E ah c O G):CG E ah c O G:=fun a w S st=>by
 obtain⟨_,_,_,V,Z,_⟩:=mY.1 (st.facts.at_ k _ hk)
 exact h (oc V Z) a w S st

section
variable{ty:TypeId}
def St.append{r:Rp α}{t ty:TypeId}{sz:Nat}{agg:Bool}(ti:TI E.P T sz bytes agg z)(hsz:r.sz=sz)(hz:Nat.beq z.length sz=true)(h0:Nat.blt 0 sz=true)(h128:Nat.ble bytes 2048=true)(M:E.P.underlying t=some (.slice T))(st:St E (mj mm r T l cap xs::O) G a w S)(hsrc:Src E.P r.sz t' v ys.length news w)(hrc:uh r S news ys)(happ:oI xs ys=some zs):
  ∃l' cap' w' S',(Builtin.append_ #[t,t'] ty #[J l cap xs.length,v]).run E.P w= .ok (J l' cap' zs.length) w' /\St E (mj mm r T l' cap' zs::O) G a w' S' :=by
 obtain⟨l',cap',w',S',hr,hext,hsat,hh,hnew⟩:=zr (ty:=ty) ti hsz hz h0 h128 M st.sat st.own.1 st.base_le hsrc hrc happ
 refine⟨l',cap',w',S',hr,st.ext.step hext fun b Y=>st.own.1.2 b Y,hsat,⟨hh,fun f hf b Y hfb=>?_,st.own.2.2.ext hext fun f hf b Y hbl=>st.own.2.1 f hf b hbl Y⟩,st.facts.mono hext.keep⟩
 rcases hnew b Y with h|h
 ·exact st.own.2.1 f hf b h hfb
 ·have:=f.here (dI.mem st.own.2.2 f hf).1 b hfb
  omega
def St.put{aE:Nat}(h:St E O G a w S)(hd:Nat.blt aE E.N.n=true)(hv:t.p S v):St E O ((aE,t)::G) (a.put (some aE) v) w S:=⟨h.ext,h.sat,h.own,h.facts.put hd hv⟩
def BY{r:Rp α}{t:TypeId}{sz:Nat}{agg:Bool}{n:Nat}{y:Operand}{u:Nat->Option Nat->Ty}(ti:TI E.P T sz bytes agg z)(hsz:r.sz=sz)(hz:Nat.beq z.length sz=true)(h0:Nat.blt 0 sz=true)(h128:Nat.ble bytes 2048=true)(M:E.P.underlying t=some (.slice T))(hd:Nat.blt aE E.N.n=true)(A:bf E.N G x (tV (J l cap n)))(hy: ∀a w S,St E (mj mm r T l cap xs::O) G a w S-> ∃news,Src E.P r.sz t' (a.eval y) ys.length news w/\uh r S news ys)(happ:oI xs ys=some zs)(hu: ∀l' cap' w0 S,(mj mm r T l' cap' zs).p w0 S->(u cap' l').p S (J l' cap' zs.length))(k: ∀l' cap',RG E ops ah rest (mj mm r T l' cap' zs::O) ((aE,u cap' l')::G))(hn:n=xs.length):
  RG E ops ah (⟨some aE,.call ⟨.builtin .append,#[x,y],#[t,t']⟩,ty,pos,after,none⟩::rest) (mj mm r T l cap xs::O) G:= .of rfl fun a w S st=>by
 subst hn
 have V:a.eval x=J l cap xs.length:=A S a st.facts
 obtain⟨news,Z,h3⟩:=hy a w S st
 obtain⟨l',cap',w',S',hr,st'⟩:=st.append (ty:=ty) ti hsz hz h0 h128 M Z h3 happ
 have hrun:(execOp a.eval ⟨some aE,.call ⟨.builtin .append,#[x,y],#[t,t']⟩,ty,pos,after,none⟩).run E.P w= .ok (.value (J l' cap' zs.length)) w' :=by
  simp [execOp,resolve,invoke,builtin,V,hr]
 refine⟨fun c h=>(by cases h),?_⟩
 rw [hrun]
 exact k l' cap' _ _ S' (st'.put hd (hu l' cap' w' S' st'.own.1.1))
def d8{r:Rp α}{t:TypeId}{sz:Nat}{agg:Bool}{n:Nat}{y:Operand}(ti:TI E.P T sz bytes agg z)(hsz:r.sz=sz)(hz:Nat.beq z.length sz=true)(h0:Nat.blt 0 sz=true)(h128:Nat.ble bytes 2048=true)(M:E.P.underlying t=some (.slice T))(ht' :t' =t)(hd:Nat.blt aE E.N.n=true)(A:bf E.N G x (tV (J l cap n)))(hy:bf E.N G y (H (eO r) ys))(happ:oI xs ys=some zs)(k: ∀l' cap',RG E ops ah rest (gb r T l' cap' zs::O) ((aE,tV (J l' cap' zs.length))::G))(hn:n=xs.length:=by rfl):
  RG E ops ah (⟨some aE,.call ⟨.builtin .append,#[x,y],#[t,t']⟩,ty,pos,after,none⟩::rest) (gb r T l cap xs::O) G:=by
 subst ht'
 exact BY (u:=fun cap' l' =>tV (J l' cap' zs.length)) ti hsz hz h0 h128 M hd A (fun a w S st=>zi M st.sat (hy S a st.facts)) happ (fun _ _ _ _ _=>rfl) k hn
def me{r:Rp α}{t:TypeId}{sz:Nat}{agg:Bool}{y:Operand}(ti:TI E.P T sz bytes agg z)(hsz:r.sz=sz)(hz:Nat.beq z.length sz=true)(h0:Nat.blt 0 sz=true)(h128:Nat.ble bytes 2048=true)(M:E.P.underlying t=some (.slice T))(ht' :t' =t)(hd:Nat.blt aE E.N.n=true)(A:bf E.N G x (tO r l cap xs))(hy:bf E.N G y (H (eO r) ys))(happ:oI xs ys=some zs)(k: ∀l' cap',RG E ops ah rest (K r T l' cap' zs::O) ((aE,tO r l' cap' zs)::G)):
  RG E ops ah (⟨some aE,.call ⟨.builtin .append,#[x,y],#[t,t']⟩,ty,pos,after,none⟩::rest) (K r T l cap xs::O) G:=by
 subst ht'
 exact BY (u:=fun cap' l' =>tO r l' cap' zs) ti hsz hz h0 h128 M hd (tQ A) (fun a w S st=>zi M st.sat (hy S a st.facts)) happ (fun _ _ _ _ h=>⟨rfl,m7 h⟩) k rfl
end
end

def C4(off:Nat): ∀(cs:List Value) (k:Nat) (pre mid post:List Value),mid.length=cs.length->pre.length=off+k->
  (cs.zipIdx k).foldl (fun(a:Array Value) x=>a.setIfInBounds (off+x.2) x.1) (pre++mid++post).toArray=(pre++cs++post).toArray
 |[],k,pre,mid,post,hm,_=>by
  have:mid=[]:=za hm
  subst this;simp
 |c::cs,k,pre,mid,post,hm,hp=>by
  cases mid with
  |nil=>simp at hm
  |cons m mid=>
   simp only [List.zipIdx_cons,List.foldl_cons]
   have V:(pre++(m::mid)++post).toArray.setIfInBounds (off+k) c=((pre++[c])++mid++post).toArray:=by
    rw [<-hp]
    simp
   rw [V,C4 off cs (k+1) (pre++[c]) mid post (by simpa using hm) (by simp;omega)]
   simp
def Cw(v:Value)(off:Nat)(pre mid post:List Value)(hm:mid.length=v.cells.size)(hp:pre.length=off):
  v.cells.zipIdx.foldl (fun cs (x:Value×Nat)=>cs.setIfInBounds (off+x.2) x.1) (pre++mid++post).toArray=(pre++v.cells.toList++post).toArray:=by
 have:=C4 off v.cells.toList 0 pre mid post (by simpa using hm) (by simpa using hp)
 rw [<-this,<-Array.foldl_toList]
 simp [Array.toList_zipIdx]
def xb{r:Rp α}{x:α}(h:r.rc S cs x):(r.val cs).cells=cs.toArray:=by
 unfold Rp.val
 cases ha:r.agg with
 |true=>simp [Value.cells]
 |false=>
  have hl:=r.len h
  rw [r.sc ha]at hl
  match cs,hl with
  |[c],_=>
   have:=r.one h c (by simp)
   cases c<;>simp_all [Value.cells,Value.oneCell']
def ES:Nat->List Value->List (Nat×Value)
 |_,[]=>[]
 |k,v::vs=>(k,v)::ES (k+1) vs
def Hf{α:Type}{r:Rp α}{S:SH}: ∀(ys:List α) (vs:List Value) (k:Nat) (pre zs:List Value),AR S (ys.map (H r)) vs->pre.length=k*r.sz->zs.length=ys.length*r.sz->
  ∃cs,uh r S cs ys/\Instr.fill (fun i=>some (i*r.sz,r.sz)) (pre++zs).toArray (ES k vs)=some (pre++cs).toArray
 |[],[],k,pre,zs,_,_,hz=>by
  have:zs=[]:=za (by simpa using hz)
  subst this
  exact⟨[],rfl,by simp [ES,Instr.fill]⟩
 |y::ys,v::vs,k,pre,zs,⟨⟨c,e,hc⟩,Z⟩,hp,hz=>by
  have hl:=r.len hc
  have hz' :r.sz<=zs.length:=by rw [hz,jm,AE];omega
  have e1:zs=zs.take r.sz++zs.drop r.sz:=(uH _ _).symm
  have hcells:v.cells=c.toArray:=by rw [e];exact xb hc
  obtain⟨cs,h3,h4⟩:=Hf ys vs (k+1) (pre++c) (zs.drop r.sz) Z (by rw [pF,hp,hl,AE];omega) (by rw [Cl,hz,jm,AE];omega)
  refine⟨c++cs,⟨c,cs,rfl,hc,h3⟩,?_⟩
  have hs:v.cells.size=r.sz:=by rw [hcells];simpa using hl
  have hcond: ¬((v.cells.size≠r.sz)\/(k*r.sz+v.cells.size>(pre++zs).toArray.size)):=by
   simp [hs];omega
  have h5:=Cw v (k*r.sz) pre (zs.take r.sz) (zs.drop r.sz) (by simp [hs];omega) hp
  rw [gK,<-e1]at h5
  simp only [ES,Instr.fill]
  rw [cr (by simpa using hcond)]
  rw [h5,hcells]
  simpa using h4
def Bd:Nat->List Operand->List (Nat×Operand)
 |_,[]=>[]
 |k,v::vs=>(k,v)::Bd (k+1) vs
def Ej(ρ:Operand->Value): ∀(k:Nat) (xs:List Operand),(Bd k xs).map (fun x=>(x.1,ρ x.2))=ES k (xs.map ρ)
 |_,[]=>rfl
 |k,x::xs=>by simp [Bd,ES,Ej ρ (k+1) xs]

section
variable{E:En}{ty:TypeId}
def zq{P:Program}{r:Rp α}{xs:List Operand}{ρ:Operand->Value}{t:TypeId}{n sz:Nat}{agg:Bool}(M:P.underlying t=some (.slice T))(ti:TI P T sz bytes agg z)(hsz:r.sz=sz)(hn:n=ys.length)(Y:Nat.ble (n*sz) 16777216=true)(A:AR S (ys.map (H r)) (xs.map ρ))(w:World):
  ∃cs,uh r S cs ys/\(Instr.buildSlice t n ((Bd 0 xs).toArray.map fun x=>(x.1,ρ x.2))).run P w= .ok (.slice (some ⟨w.heap.size,0,none⟩) n n) (w.alloc (.cells cs.toArray T (0,0))):=by
 subst hsz
 have hb' :=ul Y
 obtain⟨zv,hzr,_⟩:=ti.zero w
 obtain⟨cs,hc,hfill⟩:=Hf ys (xs.map ρ) 0 [] ((Array.range (n*r.sz)).map (fun i=>(if n*r.sz=0 then #[]else zv.cells)[i%(if n*r.sz=0 then #[]else zv.cells).size]!)).toList A (by simp) (by simp [hn])
 refine⟨cs,hc,?_⟩
 have hparts:((Bd 0 xs).toArray.map fun x=>(x.1,ρ x.2)).toList=ES 0 (xs.map ρ):=by simp [Ej]
 simp only [qg,Array.toArray_toList]at hfill
 have hle: ¬(n*r.sz>2^24):=by omega
 by_cases hn0:n*r.sz=0
 ·simp only [hn0,jo]at hfill
  simp only [Instr.buildSlice,sq,ka M,tJ,ti.sizeOf,Sem.run_ite,hn0,jo,EB,hparts,hfill]
  simp [newRow]
 ·simp only [hn0,jQ]at hfill
  simp only [Instr.buildSlice,sq,ka M,tJ,ti.sizeOf,Sem.run_ite,hle,jQ,hn0,EB,hzr,hparts,hfill]
  simp [newRow]
def a8{r:Rp α}{xs:List Operand}{parts:List (Nat×Operand)}{t:TypeId}{n sz:Nat}{agg:Bool}(M:E.P.underlying t=some (.slice T))(ti:TI E.P T sz bytes agg z)(hsz:r.sz=sz)(h0:Nat.blt 0 sz=true)(hp:parts=Bd 0 xs)(hn:n=ys.length)(Y:Nat.ble (n*sz) 16777216=true)(A:kL E.N G xs (ys.map (H r))):cE E O G ⟨dst,.buildSlice t n parts.toArray,ty,pos,after,g⟩ (H (eO r) ys):=
 .of_run fun a w S hs _ hf=>by
  obtain⟨cs,hc,hr⟩:=zq M ti hsz hn Y (A.tys hf) w
  subst hsz
  have hb' :=ul Y
  have h0' :0<r.sz:=by simpa [tK] using h0
  have hnle:n<=n*r.sz:=Nat.le_mul_of_pos_right n h0'
  obtain⟨he,hs'⟩:=wJ (w:=w) (.cells cs.toArray T (0,0)) hs
  have hcl:=mF hc
  refine⟨.slice (some ⟨w.heap.size,0,none⟩) n n,_,_,?_,he,hs',mY.2 ⟨_,n,by rw [hn],by omega,by simp only [maxLen];omega,.inr ⟨w.heap.size,0,cs.toArray,T,(0,0),rfl,by simp [SH.set],?_⟩⟩⟩
  ·subst hp
   simp only [execOp,sq,hr,tJ,EB]
  ·have:uh r (S.set w.heap.size (.cells cs.toArray T (0,0))) cs ys:=tY he.keep hc
   simpa [<-hcl] using this
def Nv{r:Rp α}{v:α}(A:bf E.N G x (H r v)):cE E O G ⟨dst,.box T x,ty,pos,after,g⟩ (bt r v):=
 .of_run fun a w S hs _ hf=>by
  obtain⟨cs,hv,hc⟩:=A S a hf
  obtain⟨he,hs'⟩:=wJ (w:=w) (.cells cs.toArray T (0,0)) hs
  refine⟨.pointer (some ⟨w.heap.size,0,none⟩),_,_,?_,he,hs',w.heap.size,0,cs.toArray,T,(0,0),rfl,by simp [SH.set],?_⟩
  ·simp [execOp,Instr.box,newVar,newRow,hv,xb hc]
  ·have:=r.mono he.keep hc
   have hl:=r.len hc
   simpa [<-hl] using this
end

def qb(c:Bool)(t:Ty):Ty where
 p:=fun S v=>if c=true then t.p S v else v=undef
 mono:=fun h k=>by
  split
  ·rename_i hc;rw [cz hc]at k;exact t.mono h k
  ·rename_i hc;rw [cr hc]at k;exact k
variable{pol:Bool}
section
variable{E:En}
def bF{N:Fr}{c:Bool}(h:look G k=some (qb c t))(hc:c=true):bf N G (.tmp k) t:=fun _ _ hF=>by
 have Z:if c=true then t.p _ (Act.eval _ (.tmp k))else _=undef:=hF.at_ k _ h
 rw [cz hc]at Z;exact Z
def wu(c b:Bool):Ty:=qb c (H rB b)
def wt(h:look G k=some (H rB b)):bf E.N G (.tmp k) (wu true b):=fun _ _ hF=>by
 have Z:(H rB b).p _ (Act.eval _ (.tmp k)):=hF.at_ k _ h
 simp only [wu,qb,jo]
 exact Z
def D3{c:Bool}(h:look G k=some (qb c (H rB b))):bf E.N G (.tmp k) (wu c b):=fun _ _ hF=>hF.at_ k _ h
def F7{c:Bool}(D:o.guard=some (j,pol))(hj:(ops[j]?).bind (·.dst)=some gs)(hn:gs<a.tmps.size)(hv:(wu c b).p S (a.tmps.getD gs undef)):
  Region.wanted o (yielded ops a.tmps)=(c&&(b==pol)):=by
 have hget:a.tmps[gs]? =some (a.tmps.getD gs undef):=by
  rw [KC,Array.getElem?_eq_getElem hn];rfl
 unfold Region.wanted
 rw [D]
 simp only [yielded,hj,bH,hget]
 cases c with
 |true=>
  have:a.tmps.getD gs undef= .bool b:=jZ.1 (by simpa [wu,qb] using hv)
  rw [this]
  cases b<;>cases pol<;>rfl
 |false=>
  have:a.tmps.getD gs undef=undef:=by simpa [wu,qb] using hv
  rw [this]
  cases pol<;>rfl
def Kw{c:Bool}{op:Op}{ty:TypeId}(hj:(ops[j]?).bind (·.dst)=some gs)(hgs:Nat.blt gs E.N.n=true)(D:bf E.N G (.tmp gs) (wu c b))(hd:Nat.blt aE E.N.n=true)(h:(c&&(b==pol))=true->cE E O G ⟨some aE,op,ty,pos,after,some (j,pol)⟩ t)(k:RG E ops ah rest O ((aE,qb (c&&(b==pol)) t)::G)):
  RG E ops ah (⟨some aE,op,ty,pos,after,some (j,pol)⟩::rest) O G:=fun a w S st=>by
 have hgs' :gs<a.tmps.size:=by rw [st.facts.size];simpa [tK] using hgs
 have hw:=F7 (o:=⟨some aE,op,ty,pos,after,some (j,pol)⟩) rfl hj hgs' (D S a st.facts)
 refine wpListIn_step fun ax hK=>?_
 rw [hw]
 by_cases hc:(c&&(b==pol))=true
 ·rw [cz hc]
  refine mB (fun a' w' ⟨v,S',ha,he,hs,hv⟩=>?_) (h hc a w S st.sat st.own st.facts)
  subst ha
  refine hK _ _ (k _ _ _ (st.step he hs hd ?_))
  simpa only [qb,hc,jo] using hv
 ·rw [cr hc]
  refine⟨fun _ _=>trivial,hK _ _ (k _ _ S (st.step (lr.refl _ _ _) st.sat hd ?_))⟩
  show if _ then _ else _
  rw [cr hc]
end

structure Nd where
 slot:Nat
 ty:Ty
 src:Option Nat
def bo(E:En)(O:List OE)(ops:Array Oper)(need:mK)(o:Oper)(t:Ty):Prop:=
 ∀a w S,mT w S->dI E.base E.B w S O->du E.N S a need->
  if Region.wanted o (yielded ops a.tmps)then Lx E.P o a w (fun a' w' => ∃v S',a' =a.put o.dst v/\lr wm w S w' S' /\mT w' S' /\t.p S' v)else t.p S undef
def kQ:List Nd->mK
 |[]=>[]
 |n::l=>(n.slot,n.ty)::kQ l
def EF(o:Oper)(j:Nat):Bool:=o.after.toList.any fun e=>Nat.beq e.on j&&Region.binds .any e
def qP(l:List Oper)(o:Oper)(i:Nat)(n:Nd):Bool:=
 match n.src with
 |some j=>(match l[j]? with|some p=>(match p.dst with|some aE=>Nat.beq aE n.slot|none=>false)|none=>false)&&EF o j
 |none=>l.all fun p=>(match p.dst with|some aE=> !(Nat.beq aE n.slot)|none=>true)||EF p i
def Dp(G:mK)(ts:List Ty)(n:Nd):Prop:=
 match n.src with
 |some j=>ts[j]? =some n.ty
 |none=>look G n.slot=some n.ty
def uF(G:mK)(ts:List Ty):List Nd->Prop
 |[]=>True
 |n::l=>Dp G ts n/\uF G ts l
def uF.mem: ∀{l:List Nd},uF G ts l-> ∀n∈l,Dp G ts n
 |_::_,⟨h,_⟩,_,.head _=>h
 |_::_,⟨_,h⟩,_,.tail _ hm=>uF.mem h _ hm
def Wv(o:Oper):Nat:=o.dst.getD 0
def fx(i:Nat)(o:Oper):Bool:=o.after.toList.all fun e=> !(Region.binds .any e)||Nat.blt e.on i
def DR(E:En)(O:List OE)(G:mK)(l:List Oper)(ts:List Ty):Nat->List Oper->Prop
 |_,[]=>True
 |i,o::rest=>(∃(needs:List Nd) (t:Ty),ts[i]? =some t/\uF G ts needs/\(needs.all (qP l o i))=true/\fx i o=true/\bo E O l.toArray (kQ needs) o t)/\DR E O G l ts (i+1) rest
def xP(N:Nat):List Nat->List Oper->Bool
 |_,[]=>true
 |seen,o::rest=>(match o.dst with|some aE=>Nat.blt aE N&& !(seen.any (Nat.beq aE))&&xP N (aE::seen) rest|none=>false)
def adb(E:En)(O:List OE)(G:mK)(l:List Oper)(ts:List Ty)(i:Nat)(o:Oper):Prop:=
 ∃(needs:List Nd) (t:Ty),ts[i]? =some t/\uF G ts needs/\(needs.all (qP l o i))=true/\fx i o=true/\bo E O l.toArray (kQ needs) o t
def DR.get{E:En}{l:List Oper}(r:List Oper): ∀(k:Nat),DR E O G l ts k r-> ∀(j:Nat) (o:Oper),r[j]? =some o->adb E O G l ts (k+j) o:=by
 induction r with
 |nil=>intro k _ j o h;simp at h
 |cons p r ih=>
  intro k h j o ho
  cases j with
  |zero=>simp at ho;subst ho;exact h.1
  |succ j=>
   have:=ih (k+1) h.2 j o (by simpa using ho)
   rwa [show k+1+j=k+(j+1)from by omega]at this
def zj{N:Nat}(l:List Oper): ∀(seen:List Nat),xP N seen l=true->
  (∀o:Oper,o∈l-> ∃aE,o.dst=some aE/\aE<N/\aE∉seen)/\ ∀(i j:Nat) (o p:Oper),l[i]? =some o->l[j]? =some p->o.dst=p.dst->i=j:=by
 induction l with
 |nil=>exact fun _ _=>⟨fun _ h=>(by cases h),fun _ _ _ _ h=>(by simp at h)⟩
 |cons o l ih=>
  intro seen h
  unfold xP at h
  cases hd:o.dst with
  |none=>rw [hd]at h;cases h
  |some aE=>
   rw [hd]at h
   simp only [jR,AI]at h
   obtain⟨⟨V,Z⟩,h3⟩:=h
   have h2' :aE∉seen:=fun hm=>by
    rw [List.any_eq_false]at Z
    exact Z aE hm (by simp)
   obtain⟨ih1,ih2⟩:=ih _ h3
   refine⟨fun q hq=>?_,fun i j q p hi hj hdp=>?_⟩
   ·rcases gw.1 hq with rfl|hq
    ·exact⟨aE,hd,by simpa [tK] using V,h2'⟩
    ·obtain⟨d',e1,e2,e3⟩:=ih1 q hq
     exact⟨d',e1,e2,fun hm=>e3 (oD _ hm)⟩
   ·cases i with
    |zero=>
     cases j with
     |zero=>rfl
     |succ j=>
      simp at hi hj
      subst hi
      obtain⟨d',e1,_,e3⟩:=ih1 p (uk hj)
      rw [hd,e1]at hdp
      have e4:aE=d' :=by simpa using hdp
      exact absurd (by rw [e4];exact oa ..) e3
    |succ i=>
     cases j with
     |zero=>
      simp at hi hj
      subst hj
      obtain⟨d',e1,_,e3⟩:=ih1 q (uk hi)
      rw [hd,e1]at hdp
      have e4:d' =aE:=by simpa using hdp
      exact absurd (by rw [e4];exact oa ..) e3
     |succ j=>rw [ih2 i j q p (by simpa using hi) (by simpa using hj) hdp]

structure DJ(E:En)(O:List OE)(G:mK)(l:List Oper)(ts:List Ty)(done:Array Bool)(a:Act)(w:World)(S:SH):Prop where
 ext:lr E.B E.w0 E.S0 w S
 sat:mT w S
 own:dI E.base E.B w S O
 size:a.tmps.size=E.N.n
 defers:a.defers=E.N.ds
 dsz:done.size=l.length
 down: ∀j o,l[j]? =some o->done.getD j false=true-> ∀e∈o.after,Region.binds .any e=true->done.getD e.on false=true
 old: ∀k t,look G k=some t->(∀j o,l[j]? =some o->done.getD j false=true->o.dst≠some k)->t.p S (a.tmps.getD k undef)
 new: ∀j o aE t,l[j]? =some o->done.getD j false=true->o.dst=some aE->ts[j]? =some t->t.p S (a.tmps.getD aE undef)
def DJ.need{E:En}{l:List Oper}(h:DJ E O G l ts done a w S)(hi:l[i]? =some o)(hun:done.getD i true=false)(hwait: ∀e∈o.after,Region.binds .any e=true->done.getD e.on false=true){needs:List Nd}(V:uF G ts needs)(Z:(needs.all (qP l o i))=true):du E.N S a (kQ needs):=by
 have hlt:i<done.size:=by rw [h.dsz];exact(ui.1 hi).1
 have hun' :done.getD i false=false:=by
  simp [hlt]at hun ⊢;exact hun
 refine⟨h.size,h.defers,?_⟩
 have key: ∀n∈needs,n.ty.p S (a.tmps.getD n.slot undef):=by
  intro n hn
  have hs:=pG.1 Z n hn
  have ho:=V.mem n hn
  unfold qP at hs
  unfold Dp at ho
  cases hsrc:n.src with
  |some j=>
   rw [hsrc]at hs ho
   simp only [jR]at hs
   obtain⟨hs1,hs2⟩:=hs
   cases hj:l[j]? with
   |none=>rw [hj]at hs1;cases hs1
   |some p=>
    rw [hj]at hs1
    cases hd:p.dst with
    |none=>simp only [hd]at hs1;cases hs1
    |some aE=>
     simp only [hd]at hs1
     have hd' :=qL hs1
     subst hd'
     have hdone:done.getD j false=true:=by
      unfold EF at hs2
      obtain⟨e,he0,Y⟩:=EZ.1 hs2
      have he:e∈o.after:=by simpa using he0
      simp only [jR]at Y
      have:=hwait e he Y.2
      rwa [qL Y.1]at this
     exact h.new j p n.slot n.ty hj hdone hd ho
  |none=>
   rw [hsrc]at hs ho
   refine h.old _ _ ho fun j p hj hdone hd=>?_
   have:=pG.1 hs p (uk hj)
   simp only [hd,Nat.beq_refl,rn,Bi]at this
   unfold EF at this
   obtain⟨e,he0,Y⟩:=EZ.1 this
   have he:e∈p.after:=by simpa using he0
   simp only [jR]at Y
   have h3:=h.down j p hj hdone e he Y.2
   rw [qL Y.1]at h3
   rw [h3]at hun'
   cases hun'
 clear V Z
 intro k t hk
 induction needs with
 |nil=>simp [kQ,look]at hk
 |cons n needs ih=>
  unfold kQ look at hk
  by_cases Y:Nat.beq n.slot k=true
  ·rw [Y]at hk
   have:=qL Y
   subst this
   have e:n.ty=t:=by simpa using hk
   rw [<-e]
   exact key n (oa ..)
  ·rw [Dv]at Y
   rw [Y]at hk
   exact ih (fun m hm=>key m (oD _ hm)) hk
def Nq:List Oper->List Ty->mK->mK
 |o::l,t::ts,G=>(Wv o,t)::Nq l ts G
 |_,_,G=>G
def IY(l:List Oper): ∀(ts:List Ty) (k:Nat) (t:Ty),(∀o:Oper,o∈l->o.dst≠none)->ts.length=l.length->look (Nq l ts G) k=some t->
  (∃(j:Nat) (o:Oper),l[j]? =some o/\o.dst=some k/\ts[j]? =some t)\/(look G k=some t/\ ∀o:Oper,o∈l->o.dst≠some k):=by
 induction l with
 |nil=>
  intro ts k t _ hl h
  have:ts=[]:=za (by simpa using hl)
  subst this
  exact .inr ⟨h,fun _ h=>(by cases h)⟩
 |cons o l ih=>
  intro ts k t hne hl h
  cases ts with
  |nil=>simp at hl
  |cons u ts=>
   unfold Nq look at h
   by_cases Y:Nat.beq (Wv o) k=true
   ·rw [Y]at h
    have hk:=qL Y
    refine .inl ⟨0,o,rfl,?_,by simpa using h⟩
    cases hd:o.dst with
    |none=>exact absurd hd (hne o (oa ..))
    |some aE=>simp only [Wv,hd,Option.getD_some]at hk;rw [hk]
   ·rw [Dv]at Y
    rw [Y]at h
    rcases ih ts k t (fun p hp=>hne p (oD _ hp)) (by simpa using hl) h with⟨j,p,V,Z,h3⟩|⟨V,Z⟩
    ·exact .inl ⟨j+1,p,by simpa using V,Z,by simpa using h3⟩
    ·refine .inr ⟨V,fun p hp hd=>?_⟩
     rcases gw.1 hp with rfl|hp
     ·simp [Wv,hd]at Y
     ·exact Z p hp hd
def wh(hd:aE<a.tmps.size):(a.put (some aE) v).tmps.getD k undef=if aE=k then v else a.tmps.getD k undef:=by
 by_cases h:aE=k
 ·subst h;simp [Act.put,KC,hd]
 ·simp [Act.put,KC,h]
def DJ.step{E:En}{l:List Oper}(h:DJ E O G l ts done a w S)(hsl:xP E.N.n [] l=true)(hi:l[i]? =some o)(hwait: ∀e∈o.after,Region.binds .any e=true->done.getD e.on false=true)(M:ts[i]? =some t)(hun:done.getD i true=false)(hext:lr wm w S w' S')(hsat:mT w' S')(hv:t.p S' v):DJ E O G l ts (done.setIfInBounds i true) (a.put o.dst v) w' S' :=by
 obtain⟨hs1,hs2⟩:=zj l [] hsl
 obtain⟨aE,hd,hdN,_⟩:=hs1 o (uk hi)
 have hda:aE<a.tmps.size:=by rw [h.size];exact hdN
 have hlt:i<done.size:=by rw [h.dsz];exact(ui.1 hi).1
 have hset: ∀j,(done.setIfInBounds i true).getD j false=true->j=i\/done.getD j false=true:=fun j hj=>by
  by_cases hij:i=j
  ·exact .inl hij.symm
  ·rw [yC false hij]at hj;exact .inr hj
 have hseti:(done.setIfInBounds i true).getD i false=true:=by simp [hlt]
 have hun' :done.getD i false=false:=by simp [hlt]at hun ⊢;exact hun
 refine⟨h.ext.step0 hext,hsat,h.own.ext0 hext,?_,?_,by simp [h.dsz],fun j p hj hdone e he Y=>?_,fun k u hk hno=>?_,fun j p d' u hj hdone hd' hu=>?_⟩
 ·rw [hd];simp [Act.put,h.size]
 ·rw [hd];exact h.defers
 ·rcases hset j hdone with rfl|hj'
  ·rw [hi]at hj
   have:o=p:=by simpa using hj
   subst this
   exact AF (hwait e he Y)
  ·exact AF (h.down j p hj hj' e he Y)
 ·have hne:aE≠k:=fun e=>hno i o hi hseti (by rw [hd,e])
  rw [hd,wh hda,cr hne]
  exact u.mono hext.keep (h.old k u hk fun j p hj hdone=>hno j p hj (AF hdone))
 ·rw [hd,wh hda]
  rcases hset j hdone with rfl|hj'
  ·rw [hi]at hj
   have:o=p:=by simpa using hj
   subst this
   rw [hd]at hd'
   have:aE=d' :=by simpa using hd'
   subst this
   rw [cz rfl]
   rw [M]at hu
   have:t=u:=by simpa using hu
   subst this
   exact hv
  ·have hne:aE≠d' :=fun e=>by
    subst e
    have:=hs2 i j o p hi hj (by rw [hd,hd'])
    subst this
    rw [hj']at hun';cases hun'
   rw [cr hne]
   exact u.mono hext.keep (h.new j p d' u hj hj' hd' hu)
def Ml{l:List Oper}{done:Array Bool}(hsz:done.size=l.length)(hedge: ∀i o,l[i]? =some o->fx i o=true)(hr:Region.ready .any l.toArray done=[]): ∀n i,i<n->i<l.length->done.getD i false=true
 |0,i,h,_=>by omega
 |n+1,i,h,hi=>by
  have ih:=Ml hsz hedge hr n
  by_cases hd:done.getD i true=true
  ·have:i<done.size:=by omega
   simp [this]at hd ⊢;exact hd
  ·exfalso
   have hmem:i∈Region.ready .any l.toArray done:=by
    rw [vm]
    refine⟨by simpa using hd,l[i],by simp [hi],fun e he Y=>?_⟩
    have:=hedge i l[i] (by simp [hi])
    unfold fx at this
    have:=pG.1 this e (by simpa using he)
    simp only [Y,rn,Bi,tK]at this
    exact ih e.on (by omega) (by omega)
   rw [hr]at hmem
   cases hmem
def mL(done:Array Bool):Nat:=done.toList.countP (· ==false)
def sI(h:done.getD i true=false):mL (done.setIfInBounds i true)+1=mL done:=by
 have hlt:i<done.size:=by
  rcases oE i done.size with h' |h'
  ·exact h'
  ·simp [Array.getElem?_eq_none h']at h
 have hv:done[i]=false:=by simpa [hlt] using h
 unfold mL
 rw [Array.toList_setIfInBounds,List.countP_set (by simpa using hlt)]
 have Z:(done.toList[i]'(by simpa using hlt))=false:=by simpa using hv
 have hpos:0<done.toList.countP (· ==false):=List.countP_pos_iff.2 ⟨done.toList[i]'(by simpa using hlt),KD _,by rw [Z];rfl⟩
 rw [Z,cz (show(false==false)=true from rfl),cr (show¬((true==false)=true) by decide)]
 omega
def MJ{E:En}{l:List Oper}(hsl:xP E.N.n [] l=true)(hd:DR E O G l ts 0 l)(hQ: ∀done a w S,DJ E O G l ts done a w S->(∀i,i<l.length->done.getD i false=true)->ah .normal a w):
  ∀(fuel:Nat) (done:Array Bool) (a:Act) (w:World) (S:SH),mL done=fuel->DJ E O G l ts done a w S->wpAnyIn (fw E.r) 0 E.P .any l.toArray ah fuel done a w:=by
 have hedge: ∀i o,l[i]? =some o->fx i o=true:=fun i o hi=>by
  obtain⟨_,_,_,_,_,h,_⟩:=DR.get l 0 hd i o hi
  simpa using h
 have fin: ∀done a w S,DJ E O G l ts done a w S->Region.ready .any l.toArray done=[]->ah .normal a w:=fun done a w S h hr=>
  hQ done a w S h fun i hi=>Ml h.dsz hedge hr (i+1) i (by omega) hi
 intro fuel
 induction fuel with
 |zero=>
  intro done a w S hu h
  have hr:Region.ready .any l.toArray done=[]:=by
   cases hr:Region.ready .any l.toArray done with
   |nil=>rfl
   |cons i r=>
    have hm:i∈Region.ready .any l.toArray done:=by rw [hr];exact oa ..
    have:=sI (vm.1 hm).1
    omega
  exact⟨hr,fin done a w S h hr⟩
 |succ fuel ih=>
  intro done a w S hu h
  refine⟨fin done a w S h,fun i hi=>?_⟩
  obtain⟨hun,o,ho,hwait⟩:=vm.1 hi
  have ho' :l[i]? =some o:=by simpa using ho
  obtain⟨needs,t,V,Z,h3,_,h5⟩:=DR.get l 0 hd i o ho'
  rw [sB]at V h3
  have hF:=h.need ho' hun hwait Z h3
  have h6:=h5 a w S h.sat h.own hF
  have hu' :mL (done.setIfInBounds i true)=fuel:=by have:=sI hun;omega
  unfold wpOpIn
  rw [ho]
  show if _ then _ else _
  by_cases hw:Region.wanted o (yielded l.toArray a.tmps)=true
  ·rw [cz hw]at h6 ⊢
   refine mB (fun a' w' ⟨v,S',ha,he,hs,hv⟩=>?_) h6
   subst ha
   exact ih _ _ _ S' hu' (h.step hsl ho' hwait V hun he hs hv)
  ·rw [cr hw]at h6 ⊢
   exact⟨fun _ _=>trivial,ih _ _ _ S hu' (h.step hsl ho' hwait V hun (lr.refl _ _ _) h.sat h6)⟩
section
variable{E:En}
def eI{id:Nat}{l:List Oper}(hm:E.P.follows .mixedOrders=true)(hsl:xP E.N.n [] l=true)(hlen:ts.length=l.length)(hd:DR E O G l ts 0 l)(k:AT E ah .normal O (Nq l ts G)):
  CG E ah (.region id l.toArray true) O G:=fun a w S st=>by
 refine wpIn_region_any hm ?_
 obtain⟨he,hs⟩:=Dt (w:=w) st.sat
 refine MJ hsl hd (fun done a w S h hall=>k a w S ⟨h.ext,h.sat,h.own,h.size,h.defers,fun j t hj=>?_⟩) _ _ _ _ S ?_
  ⟨st.ext.step0 he,hs,st.own.ext0 he,st.facts.size,st.facts.defers,by simp,fun j o hj hdone=>?_,fun k t hk _=>st.facts.at_ k t hk,fun j o aE t hj hdone=>?_⟩
 ·obtain⟨hs1,_⟩:=zj l [] hsl
  rcases IY l ts j t (fun o ho e=>by obtain⟨aE,hd,_⟩:=hs1 o ho;rw [hd]at e;cases e) hlen hj with⟨i,o,V,Z,h3⟩|⟨V,Z⟩
  ·exact h.new i o j t V (hall i (ui.1 V).1) Z h3
  ·exact h.old j t V fun i o ho _=>Z o (uk ho)
 ·unfold mL;rw [OK,OC];simp
 ·simp [Bp]at hdone
  split at hdone<;>simp at hdone
 ·simp [Bp]at hdone
  split at hdone<;>simp at hdone
def aa{need:mK}(D:o.guard=none)(h:cE E O need o t):bo E O ops need o t:=fun a w S hs ho hf=>by
 have:Region.wanted o (yielded ops a.tmps)=true:=by unfold Region.wanted;rw [D]
 rw [this,cz rfl]
 exact h a w S hs ho hf
def z1{l:List Oper}{need:mK}{c:Bool}(D:o.guard=some (j,pol))(hj:((l.toArray)[j]?).bind (·.dst)=some gs)(hgs:Nat.blt gs E.N.n=true)(Y:bf E.N need (.tmp gs) (wu c b))(h:(c&&(b==pol))=true->cE E O need o t):bo E O l.toArray need o (qb (c&&(b==pol)) t):=fun a w S hs ho hf=>by
 have hw:=F7 (ops:=l.toArray) D hj (by rw [hf.size];simpa [tK] using hgs) (Y S a hf)
 rw [hw]
 by_cases hc:(c&&(b==pol))=true
 ·rw [cz hc]
  refine pN (fun a' w' ⟨v,S',ha,he,hs,hv⟩=>⟨v,S',ha,he,hs,?_⟩) (h hc a w S hs ho hf)
  show if _ then _ else _
  rw [cz hc];exact hv
 ·rw [cr hc]
  show if _ then _ else _
  rw [cr hc]
end
variable{α0:Type}{Gf:α0->mK}{Of:α0->List OE}{α1 α10 α11 α12 α2 α3 α4 α5 α6 α7 α8 α9:Type}
section
variable{E:En}
def R4{id:Nat}{h2:Prop}{Of:List OE}{Gf:mK}(hK:h2->AT E ah .normal (Of) (Gf))(h:(h2->AT E ah .normal (Of) (Gf))->CG E (Exit.inBlock id ah) c O G):CG E ah (.block id c) O G:=ai (h hK)
def sl{h2:Nat->α0->Prop}(h0: ∀x0,h2 0 x0->False)(h: ∀n,(∀x0,h2 n x0->LG E ah c (Of x0) (Gf x0))-> ∀x0,h2 (n+1) x0->LG E ah c (Of x0) (Gf x0)): ∀n,∀x0,h2 n x0->LG E ah c (Of x0) (Gf x0)
 |0=>fun x0 hz=>(h0 x0 hz).elim
 |n+1=>h n (sl h0 h n)
def dz{h2:List β->α0->Prop}{Of:List β->α0->List OE}{Gf:List β->α0->mK}(h0: ∀x0,h2 [] x0->LG E ah c (Of [] x0) (Gf [] x0))(h: ∀b l,(∀x0,h2 l x0->LG E ah c (Of l x0) (Gf l x0))-> ∀x0,h2 (b::l) x0->LG E ah c (Of (b::l) x0) (Gf (b::l) x0)): ∀l,∀x0,h2 l x0->LG E ah c (Of l x0) (Gf l x0)
 |[]=>h0
 |b::l=>h b l (dz h0 h l)
def Kz{h2:Nat->α0->Prop}{Of:Nat->α0->List OE}{Gf:Nat->α0->mK}(h0: ∀x0,h2 0 x0->LG E ah c (Of 0 x0) (Gf 0 x0))(h: ∀n,(∀x0,h2 n x0->LG E ah c (Of n x0) (Gf n x0))-> ∀x0,h2 (n+1) x0->LG E ah c (Of (n+1) x0) (Gf (n+1) x0)): ∀n,∀x0,h2 n x0->LG E ah c (Of n x0) (Gf n x0)
 |0=>h0
 |n+1=>h n (Kz h0 h n)
def Js{id:Nat}{h2:α0->Prop}(hK: ∀x0,h2 x0->AT E ah .normal (Of x0) (Gf x0))(h:(∀x0,h2 x0->AT E ah .normal (Of x0) (Gf x0))->CG E (Exit.inBlock id ah) c O G):CG E ah (.block id c) O G:=ai (h hK)
def ig{x:Code}{h2:α0->Prop}(hK: ∀x0,h2 x0->CG E ah y (Of x0) (Gf x0))(h:(∀x0,h2 x0->AT E (Exit.then (y.wpIn (fw E.r) 0 E.P ah) ah) .normal (Of x0) (Gf x0))->CG E (Exit.then (y.wpIn (fw E.r) 0 E.P ah) ah) x O G):CG E ah (.seq x y) O G:=aD (h (fun x0=>fun hz=>hK x0 hz))
def Qn{h2:Nat->α0->α1->Prop}{Of:α0->α1->List OE}{Gf:α0->α1->mK}(h0: ∀x0 x1,h2 0 x0 x1->False)(h: ∀n,(∀x0 x1,h2 n x0 x1->LG E ah c (Of x0 x1) (Gf x0 x1))-> ∀x0 x1,h2 (n+1) x0 x1->LG E ah c (Of x0 x1) (Gf x0 x1)): ∀n,∀x0 x1,h2 n x0 x1->LG E ah c (Of x0 x1) (Gf x0 x1)
 |0=>fun x0 x1 hz=>(h0 x0 x1 hz).elim
 |n+1=>h n (Qn h0 h n)
def j8{h2:List β->α0->α1->Prop}{Of:List β->α0->α1->List OE}{Gf:List β->α0->α1->mK}(h0: ∀x0 x1,h2 [] x0 x1->LG E ah c (Of [] x0 x1) (Gf [] x0 x1))(h: ∀b l,(∀x0 x1,h2 l x0 x1->LG E ah c (Of l x0 x1) (Gf l x0 x1))-> ∀x0 x1,h2 (b::l) x0 x1->LG E ah c (Of (b::l) x0 x1) (Gf (b::l) x0 x1)): ∀l,∀x0 x1,h2 l x0 x1->LG E ah c (Of l x0 x1) (Gf l x0 x1)
 |[]=>h0
 |b::l=>h b l (j8 h0 h l)
def Qm{h2:Nat->α0->α1->Prop}{Of:Nat->α0->α1->List OE}{Gf:Nat->α0->α1->mK}(h0: ∀x0 x1,h2 0 x0 x1->LG E ah c (Of 0 x0 x1) (Gf 0 x0 x1))(h: ∀n,(∀x0 x1,h2 n x0 x1->LG E ah c (Of n x0 x1) (Gf n x0 x1))-> ∀x0 x1,h2 (n+1) x0 x1->LG E ah c (Of (n+1) x0 x1) (Gf (n+1) x0 x1)): ∀n,∀x0 x1,h2 n x0 x1->LG E ah c (Of n x0 x1) (Gf n x0 x1)
 |0=>h0
 |n+1=>h n (Qm h0 h n)
def xD{x:Code}{h2:α0->α1->Prop}{Of:α0->α1->List OE}{Gf:α0->α1->mK}(hK: ∀x0 x1,h2 x0 x1->CG E ah y (Of x0 x1) (Gf x0 x1))(h:(∀x0 x1,h2 x0 x1->AT E (Exit.then (y.wpIn (fw E.r) 0 E.P ah) ah) .normal (Of x0 x1) (Gf x0 x1))->CG E (Exit.then (y.wpIn (fw E.r) 0 E.P ah) ah) x O G):CG E ah (.seq x y) O G:=aD (h (fun x0 x1=>fun hz=>hK x0 x1 hz))
def uf{h2:List β->α0->α1->α2->Prop}{Of:List β->α0->α1->α2->List OE}{Gf:List β->α0->α1->α2->mK}(h0: ∀x0 x1 x2,h2 [] x0 x1 x2->LG E ah c (Of [] x0 x1 x2) (Gf [] x0 x1 x2))(h: ∀b l,(∀x0 x1 x2,h2 l x0 x1 x2->LG E ah c (Of l x0 x1 x2) (Gf l x0 x1 x2))-> ∀x0 x1 x2,h2 (b::l) x0 x1 x2->LG E ah c (Of (b::l) x0 x1 x2) (Gf (b::l) x0 x1 x2)): ∀l,∀x0 x1 x2,h2 l x0 x1 x2->LG E ah c (Of l x0 x1 x2) (Gf l x0 x1 x2)
 |[]=>h0
 |b::l=>h b l (uf h0 h l)
def Ql{h2:Nat->α0->α1->α2->Prop}{Of:Nat->α0->α1->α2->List OE}{Gf:Nat->α0->α1->α2->mK}(h0: ∀x0 x1 x2,h2 0 x0 x1 x2->LG E ah c (Of 0 x0 x1 x2) (Gf 0 x0 x1 x2))(h: ∀n,(∀x0 x1 x2,h2 n x0 x1 x2->LG E ah c (Of n x0 x1 x2) (Gf n x0 x1 x2))-> ∀x0 x1 x2,h2 (n+1) x0 x1 x2->LG E ah c (Of (n+1) x0 x1 x2) (Gf (n+1) x0 x1 x2)): ∀n,∀x0 x1 x2,h2 n x0 x1 x2->LG E ah c (Of n x0 x1 x2) (Gf n x0 x1 x2)
 |0=>h0
 |n+1=>h n (Ql h0 h n)
def R2{id:Nat}{h2:α0->α1->α2->Prop}{Of:α0->α1->α2->List OE}{Gf:α0->α1->α2->mK}(hK: ∀x0 x1 x2,h2 x0 x1 x2->AT E ah .normal (Of x0 x1 x2) (Gf x0 x1 x2))(h:(∀x0 x1 x2,h2 x0 x1 x2->AT E ah .normal (Of x0 x1 x2) (Gf x0 x1 x2))->CG E (Exit.inBlock id ah) c O G):CG E ah (.block id c) O G:=ai (h hK)
def vj{x:Code}{h2:α0->α1->α2->Prop}{Of:α0->α1->α2->List OE}{Gf:α0->α1->α2->mK}(hK: ∀x0 x1 x2,h2 x0 x1 x2->CG E ah y (Of x0 x1 x2) (Gf x0 x1 x2))(h:(∀x0 x1 x2,h2 x0 x1 x2->AT E (Exit.then (y.wpIn (fw E.r) 0 E.P ah) ah) .normal (Of x0 x1 x2) (Gf x0 x1 x2))->CG E (Exit.then (y.wpIn (fw E.r) 0 E.P ah) ah) x O G):CG E ah (.seq x y) O G:=aD (h (fun x0 x1 x2=>fun hz=>hK x0 x1 x2 hz))
def KA{h2:Nat->α0->α1->α2->α3->Prop}{Of:α0->α1->α2->α3->List OE}{Gf:α0->α1->α2->α3->mK}(h0: ∀x0 x1 x2 x3,h2 0 x0 x1 x2 x3->False)(h: ∀n,(∀x0 x1 x2 x3,h2 n x0 x1 x2 x3->LG E ah c (Of x0 x1 x2 x3) (Gf x0 x1 x2 x3))-> ∀x0 x1 x2 x3,h2 (n+1) x0 x1 x2 x3->LG E ah c (Of x0 x1 x2 x3) (Gf x0 x1 x2 x3)): ∀n,∀x0 x1 x2 x3,h2 n x0 x1 x2 x3->LG E ah c (Of x0 x1 x2 x3) (Gf x0 x1 x2 x3)
 |0=>fun x0 x1 x2 x3 hz=>(h0 x0 x1 x2 x3 hz).elim
 |n+1=>h n (KA h0 h n)
def jF{h2:List β->α0->α1->α2->α3->Prop}{Of:List β->α0->α1->α2->α3->List OE}{Gf:List β->α0->α1->α2->α3->mK}(h0: ∀x0 x1 x2 x3,h2 [] x0 x1 x2 x3->LG E ah c (Of [] x0 x1 x2 x3) (Gf [] x0 x1 x2 x3))(h: ∀b l,(∀x0 x1 x2 x3,h2 l x0 x1 x2 x3->LG E ah c (Of l x0 x1 x2 x3) (Gf l x0 x1 x2 x3))-> ∀x0 x1 x2 x3,h2 (b::l) x0 x1 x2 x3->LG E ah c (Of (b::l) x0 x1 x2 x3) (Gf (b::l) x0 x1 x2 x3)): ∀l,∀x0 x1 x2 x3,h2 l x0 x1 x2 x3->LG E ah c (Of l x0 x1 x2 x3) (Gf l x0 x1 x2 x3)
 |[]=>h0
 |b::l=>h b l (jF h0 h l)
def Qk{h2:Nat->α0->α1->α2->α3->Prop}{Of:Nat->α0->α1->α2->α3->List OE}{Gf:Nat->α0->α1->α2->α3->mK}(h0: ∀x0 x1 x2 x3,h2 0 x0 x1 x2 x3->LG E ah c (Of 0 x0 x1 x2 x3) (Gf 0 x0 x1 x2 x3))(h: ∀n,(∀x0 x1 x2 x3,h2 n x0 x1 x2 x3->LG E ah c (Of n x0 x1 x2 x3) (Gf n x0 x1 x2 x3))-> ∀x0 x1 x2 x3,h2 (n+1) x0 x1 x2 x3->LG E ah c (Of (n+1) x0 x1 x2 x3) (Gf (n+1) x0 x1 x2 x3)): ∀n,∀x0 x1 x2 x3,h2 n x0 x1 x2 x3->LG E ah c (Of n x0 x1 x2 x3) (Gf n x0 x1 x2 x3)
 |0=>h0
 |n+1=>h n (Qk h0 h n)
def R1{id:Nat}{h2:α0->α1->α2->α3->Prop}{Of:α0->α1->α2->α3->List OE}{Gf:α0->α1->α2->α3->mK}(hK: ∀x0 x1 x2 x3,h2 x0 x1 x2 x3->AT E ah .normal (Of x0 x1 x2 x3) (Gf x0 x1 x2 x3))(h:(∀x0 x1 x2 x3,h2 x0 x1 x2 x3->AT E ah .normal (Of x0 x1 x2 x3) (Gf x0 x1 x2 x3))->CG E (Exit.inBlock id ah) c O G):CG E ah (.block id c) O G:=ai (h hK)
def Dq{h2:List β->α0->α1->α2->α3->α4->Prop}{Of:List β->α0->α1->α2->α3->α4->List OE}{Gf:List β->α0->α1->α2->α3->α4->mK}(h0: ∀x0 x1 x2 x3 x4,h2 [] x0 x1 x2 x3 x4->LG E ah c (Of [] x0 x1 x2 x3 x4) (Gf [] x0 x1 x2 x3 x4))(h: ∀b l,(∀x0 x1 x2 x3 x4,h2 l x0 x1 x2 x3 x4->LG E ah c (Of l x0 x1 x2 x3 x4) (Gf l x0 x1 x2 x3 x4))-> ∀x0 x1 x2 x3 x4,h2 (b::l) x0 x1 x2 x3 x4->LG E ah c (Of (b::l) x0 x1 x2 x3 x4) (Gf (b::l) x0 x1 x2 x3 x4)): ∀l,∀x0 x1 x2 x3 x4,h2 l x0 x1 x2 x3 x4->LG E ah c (Of l x0 x1 x2 x3 x4) (Gf l x0 x1 x2 x3 x4)
 |[]=>h0
 |b::l=>h b l (Dq h0 h l)
def R0{id:Nat}{h2:α0->α1->α2->α3->α4->α5->Prop}{Of:α0->α1->α2->α3->α4->α5->List OE}{Gf:α0->α1->α2->α3->α4->α5->mK}(hK: ∀x0 x1 x2 x3 x4 x5,h2 x0 x1 x2 x3 x4 x5->AT E ah .normal (Of x0 x1 x2 x3 x4 x5) (Gf x0 x1 x2 x3 x4 x5))(h:(∀x0 x1 x2 x3 x4 x5,h2 x0 x1 x2 x3 x4 x5->AT E ah .normal (Of x0 x1 x2 x3 x4 x5) (Gf x0 x1 x2 x3 x4 x5))->CG E (Exit.inBlock id ah) c O G):CG E ah (.block id c) O G:=ai (h hK)
def RY{x:Code}{h2:α0->α1->α2->α3->α4->α5->Prop}{Of:α0->α1->α2->α3->α4->α5->List OE}{Gf:α0->α1->α2->α3->α4->α5->mK}(hK: ∀x0 x1 x2 x3 x4 x5,h2 x0 x1 x2 x3 x4 x5->CG E ah y (Of x0 x1 x2 x3 x4 x5) (Gf x0 x1 x2 x3 x4 x5))(h:(∀x0 x1 x2 x3 x4 x5,h2 x0 x1 x2 x3 x4 x5->AT E (Exit.then (y.wpIn (fw E.r) 0 E.P ah) ah) .normal (Of x0 x1 x2 x3 x4 x5) (Gf x0 x1 x2 x3 x4 x5))->CG E (Exit.then (y.wpIn (fw E.r) 0 E.P ah) ah) x O G):CG E ah (.seq x y) O G:=aD (h (fun x0 x1 x2 x3 x4 x5=>fun hz=>hK x0 x1 x2 x3 x4 x5 hz))
def z2{h2:List β->α0->α1->α2->α3->α4->α5->α6->Prop}{Of:List β->α0->α1->α2->α3->α4->α5->α6->List OE}{Gf:List β->α0->α1->α2->α3->α4->α5->α6->mK}(h0: ∀x0 x1 x2 x3 x4 x5 x6,h2 [] x0 x1 x2 x3 x4 x5 x6->LG E ah c (Of [] x0 x1 x2 x3 x4 x5 x6) (Gf [] x0 x1 x2 x3 x4 x5 x6))(h: ∀b l,(∀x0 x1 x2 x3 x4 x5 x6,h2 l x0 x1 x2 x3 x4 x5 x6->LG E ah c (Of l x0 x1 x2 x3 x4 x5 x6) (Gf l x0 x1 x2 x3 x4 x5 x6))-> ∀x0 x1 x2 x3 x4 x5 x6,h2 (b::l) x0 x1 x2 x3 x4 x5 x6->LG E ah c (Of (b::l) x0 x1 x2 x3 x4 x5 x6) (Gf (b::l) x0 x1 x2 x3 x4 x5 x6)): ∀l,∀x0 x1 x2 x3 x4 x5 x6,h2 l x0 x1 x2 x3 x4 x5 x6->LG E ah c (Of l x0 x1 x2 x3 x4 x5 x6) (Gf l x0 x1 x2 x3 x4 x5 x6)
 |[]=>h0
 |b::l=>h b l (z2 h0 h l)
def Qj{h2:Nat->α0->α1->α2->α3->α4->α5->α6->Prop}{Of:Nat->α0->α1->α2->α3->α4->α5->α6->List OE}{Gf:Nat->α0->α1->α2->α3->α4->α5->α6->mK}(h0: ∀x0 x1 x2 x3 x4 x5 x6,h2 0 x0 x1 x2 x3 x4 x5 x6->LG E ah c (Of 0 x0 x1 x2 x3 x4 x5 x6) (Gf 0 x0 x1 x2 x3 x4 x5 x6))(h: ∀n,(∀x0 x1 x2 x3 x4 x5 x6,h2 n x0 x1 x2 x3 x4 x5 x6->LG E ah c (Of n x0 x1 x2 x3 x4 x5 x6) (Gf n x0 x1 x2 x3 x4 x5 x6))-> ∀x0 x1 x2 x3 x4 x5 x6,h2 (n+1) x0 x1 x2 x3 x4 x5 x6->LG E ah c (Of (n+1) x0 x1 x2 x3 x4 x5 x6) (Gf (n+1) x0 x1 x2 x3 x4 x5 x6)): ∀n,∀x0 x1 x2 x3 x4 x5 x6,h2 n x0 x1 x2 x3 x4 x5 x6->LG E ah c (Of n x0 x1 x2 x3 x4 x5 x6) (Gf n x0 x1 x2 x3 x4 x5 x6)
 |0=>h0
 |n+1=>h n (Qj h0 h n)
def RX{x:Code}{h2:α0->α1->α2->α3->α4->α5->α6->α7->Prop}{Of:α0->α1->α2->α3->α4->α5->α6->α7->List OE}{Gf:α0->α1->α2->α3->α4->α5->α6->α7->mK}(hK: ∀x0 x1 x2 x3 x4 x5 x6 x7,h2 x0 x1 x2 x3 x4 x5 x6 x7->CG E ah y (Of x0 x1 x2 x3 x4 x5 x6 x7) (Gf x0 x1 x2 x3 x4 x5 x6 x7))(h:(∀x0 x1 x2 x3 x4 x5 x6 x7,h2 x0 x1 x2 x3 x4 x5 x6 x7->AT E (Exit.then (y.wpIn (fw E.r) 0 E.P ah) ah) .normal (Of x0 x1 x2 x3 x4 x5 x6 x7) (Gf x0 x1 x2 x3 x4 x5 x6 x7))->CG E (Exit.then (y.wpIn (fw E.r) 0 E.P ah) ah) x O G):CG E ah (.seq x y) O G:=aD (h (fun x0 x1 x2 x3 x4 x5 x6 x7=>fun hz=>hK x0 x1 x2 x3 x4 x5 x6 x7 hz))
def HN{h2:List β->α0->α1->α2->α3->α4->α5->α6->α7->α8->Prop}{Of:List β->α0->α1->α2->α3->α4->α5->α6->α7->α8->List OE}{Gf:List β->α0->α1->α2->α3->α4->α5->α6->α7->α8->mK}(h0: ∀x0 x1 x2 x3 x4 x5 x6 x7 x8,h2 [] x0 x1 x2 x3 x4 x5 x6 x7 x8->LG E ah c (Of [] x0 x1 x2 x3 x4 x5 x6 x7 x8) (Gf [] x0 x1 x2 x3 x4 x5 x6 x7 x8))(h: ∀b l,(∀x0 x1 x2 x3 x4 x5 x6 x7 x8,h2 l x0 x1 x2 x3 x4 x5 x6 x7 x8->LG E ah c (Of l x0 x1 x2 x3 x4 x5 x6 x7 x8) (Gf l x0 x1 x2 x3 x4 x5 x6 x7 x8))-> ∀x0 x1 x2 x3 x4 x5 x6 x7 x8,h2 (b::l) x0 x1 x2 x3 x4 x5 x6 x7 x8->LG E ah c (Of (b::l) x0 x1 x2 x3 x4 x5 x6 x7 x8) (Gf (b::l) x0 x1 x2 x3 x4 x5 x6 x7 x8)): ∀l,∀x0 x1 x2 x3 x4 x5 x6 x7 x8,h2 l x0 x1 x2 x3 x4 x5 x6 x7 x8->LG E ah c (Of l x0 x1 x2 x3 x4 x5 x6 x7 x8) (Gf l x0 x1 x2 x3 x4 x5 x6 x7 x8)
 |[]=>h0
 |b::l=>h b l (HN h0 h l)
def yB{x:Code}{h2:α0->α1->α2->α3->α4->α5->α6->α7->α8->α9->α10->α11->α12->Prop}{Of:α0->α1->α2->α3->α4->α5->α6->α7->α8->α9->α10->α11->α12->List OE}{Gf:α0->α1->α2->α3->α4->α5->α6->α7->α8->α9->α10->α11->α12->mK}(hK: ∀x0 x1 x2 x3 x4 x5 x6 x7 x8 x9 x10 x11 x12,h2 x0 x1 x2 x3 x4 x5 x6 x7 x8 x9 x10 x11 x12->CG E ah y (Of x0 x1 x2 x3 x4 x5 x6 x7 x8 x9 x10 x11 x12) (Gf x0 x1 x2 x3 x4 x5 x6 x7 x8 x9 x10 x11 x12))(h:(∀x0 x1 x2 x3 x4 x5 x6 x7 x8 x9 x10 x11 x12,h2 x0 x1 x2 x3 x4 x5 x6 x7 x8 x9 x10 x11 x12->AT E (Exit.then (y.wpIn (fw E.r) 0 E.P ah) ah) .normal (Of x0 x1 x2 x3 x4 x5 x6 x7 x8 x9 x10 x11 x12) (Gf x0 x1 x2 x3 x4 x5 x6 x7 x8 x9 x10 x11 x12))->CG E (Exit.then (y.wpIn (fw E.r) 0 E.P ah) ah) x O G):CG E ah (.seq x y) O G:=aD (h (fun x0 x1 x2 x3 x4 x5 x6 x7 x8 x9 x10 x11 x12=>fun hz=>hK x0 x1 x2 x3 x4 x5 x6 x7 x8 x9 x10 x11 x12 hz))
def xC{α13:Type}{h2:List β->α0->α1->α2->α3->α4->α5->α6->α7->α8->α9->α10->α11->α12->α13->Prop}{Of:List β->α0->α1->α2->α3->α4->α5->α6->α7->α8->α9->α10->α11->α12->α13->List OE}{Gf:List β->α0->α1->α2->α3->α4->α5->α6->α7->α8->α9->α10->α11->α12->α13->mK}(h0: ∀x0 x1 x2 x3 x4 x5 x6 x7 x8 x9 x10 x11 x12 x13,h2 [] x0 x1 x2 x3 x4 x5 x6 x7 x8 x9 x10 x11 x12 x13->LG E ah c (Of [] x0 x1 x2 x3 x4 x5 x6 x7 x8 x9 x10 x11 x12 x13) (Gf [] x0 x1 x2 x3 x4 x5 x6 x7 x8 x9 x10 x11 x12 x13))(h: ∀b l,(∀x0 x1 x2 x3 x4 x5 x6 x7 x8 x9 x10 x11 x12 x13,h2 l x0 x1 x2 x3 x4 x5 x6 x7 x8 x9 x10 x11 x12 x13->LG E ah c (Of l x0 x1 x2 x3 x4 x5 x6 x7 x8 x9 x10 x11 x12 x13) (Gf l x0 x1 x2 x3 x4 x5 x6 x7 x8 x9 x10 x11 x12 x13))-> ∀x0 x1 x2 x3 x4 x5 x6 x7 x8 x9 x10 x11 x12 x13,h2 (b::l) x0 x1 x2 x3 x4 x5 x6 x7 x8 x9 x10 x11 x12 x13->LG E ah c (Of (b::l) x0 x1 x2 x3 x4 x5 x6 x7 x8 x9 x10 x11 x12 x13) (Gf (b::l) x0 x1 x2 x3 x4 x5 x6 x7 x8 x9 x10 x11 x12 x13)): ∀l,∀x0 x1 x2 x3 x4 x5 x6 x7 x8 x9 x10 x11 x12 x13,h2 l x0 x1 x2 x3 x4 x5 x6 x7 x8 x9 x10 x11 x12 x13->LG E ah c (Of l x0 x1 x2 x3 x4 x5 x6 x7 x8 x9 x10 x11 x12 x13) (Gf l x0 x1 x2 x3 x4 x5 x6 x7 x8 x9 x10 x11 x12 x13)
 |[]=>h0
 |b::l=>h b l (xC h0 h l)
def Cb{x:Code}{α13 α14:Type}{h2:α0->α1->α2->α3->α4->α5->α6->α7->α8->α9->α10->α11->α12->α13->α14->Prop}{Of:α0->α1->α2->α3->α4->α5->α6->α7->α8->α9->α10->α11->α12->α13->α14->List OE}{Gf:α0->α1->α2->α3->α4->α5->α6->α7->α8->α9->α10->α11->α12->α13->α14->mK}(hK: ∀x0 x1 x2 x3 x4 x5 x6 x7 x8 x9 x10 x11 x12 x13 x14,h2 x0 x1 x2 x3 x4 x5 x6 x7 x8 x9 x10 x11 x12 x13 x14->CG E ah y (Of x0 x1 x2 x3 x4 x5 x6 x7 x8 x9 x10 x11 x12 x13 x14) (Gf x0 x1 x2 x3 x4 x5 x6 x7 x8 x9 x10 x11 x12 x13 x14))(h:(∀x0 x1 x2 x3 x4 x5 x6 x7 x8 x9 x10 x11 x12 x13 x14,h2 x0 x1 x2 x3 x4 x5 x6 x7 x8 x9 x10 x11 x12 x13 x14->AT E (Exit.then (y.wpIn (fw E.r) 0 E.P ah) ah) .normal (Of x0 x1 x2 x3 x4 x5 x6 x7 x8 x9 x10 x11 x12 x13 x14) (Gf x0 x1 x2 x3 x4 x5 x6 x7 x8 x9 x10 x11 x12 x13 x14))->CG E (Exit.then (y.wpIn (fw E.r) 0 E.P ah) ah) x O G):CG E ah (.seq x y) O G:=aD (h (fun x0 x1 x2 x3 x4 x5 x6 x7 x8 x9 x10 x11 x12 x13 x14=>fun hz=>hK x0 x1 x2 x3 x4 x5 x6 x7 x8 x9 x10 x11 x12 x13 x14 hz))
end
def bs{α:Type _}{β:Type _}{x:Option α}{k:α->Option β}{r:β}(h:x.bind k=some r): ∃y,x=some y/\k y=some r:=by
 cases x with
 |none=>cases h
 |some y=>exact⟨y,rfl,h⟩
def ct{β:Type _}{x y:Option β}{r:β}(h:(if b=true then x else y)=some r)(Y:b=true):x=some r:=by rwa [cz Y]at h
def cf{β:Type _}{x y:Option β}{r:β}(h:(if b=true then x else y)=some r)(Y:b=false):y=some r:=by rwa [cr (by rw [Y];decide)]at h
def so{β:Type _}{x r:β}(h:some x=some r):x=r:=by simpa using h
def og [Inhabited α]{x:Option α}{k:α->Option β}{aE:Option β}{r:β}(h:(if b=true then x.bind k else aE)=some r): ∃y,(b=true->x=some y/\k y=some r)/\(b=false->aE=some r):=by
 cases b with
 |true=>obtain⟨y,V,Z⟩:=bs (ct h rfl);exact⟨y,fun _=>⟨V,Z⟩,fun e=>(by cases e)⟩
 |false=>exact⟨default,fun e=>(by cases e),fun _=>cf h rfl⟩

def ck{α β:Type}(p:Rp α)(q:Rp β):Rp (α×β) where
 sz:=p.sz+q.sz
 agg:=true
 rc:=fun S cs x=> ∃a b,cs=a++b/\p.rc S a x.1/\q.rc S b x.2
 mono:=fun h ⟨a,b,e,V,Z⟩=>⟨a,b,e,p.mono h V,q.mono h Z⟩
 len:=fun⟨a,b,e,V,Z⟩=>by rw [e,pF,p.len V,q.len Z]
 one:=fun⟨a,b,e,V,Z⟩ c hc=>by
  rw [e]at hc
  rcases Bj.1 hc with h|h
  ·exact p.one V c h
  ·exact q.one Z c h
 sc:=fun h=>by cases h
def kp{α β:Type}(p:Rp α)(f:β->α):Rp β where
 sz:=p.sz
 agg:=true
 rc:=fun S cs x=>p.rc S cs (f x)
 mono:=fun h k=>p.mono h k
 len:=fun h=>p.len h
 one:=fun h=>p.one h
 sc:=fun h=>by cases h
def bN{p:Rp α}{f:β->α}:jn (kp p f) 0 p f:=fun S cs x h=>by
 have h' :p.rc S cs (f x):=h
 have hl:=p.len h'
 rw [sC,<-hl,AU];exact h'
def cA{γ:Type}{p:Rp α}{q:Rp β}{r:Rp γ}{get:γ->α×β}(h:jn r off (ck p q) get):jn r off p (fun x=>(get x).1):=fun S cs x k=>by
 obtain⟨a,b,e,V,Z⟩:=h S cs x k
 have hl:=p.len V
 have hl2:=q.len Z
 have:(cs.drop off).take p.sz=a:=by
  have e2:=congrArg (List.take p.sz) e
  rw [yD,Cf (by show p.sz<=p.sz+q.sz;omega),<-hl,List.take_left]at e2
  rw [<-hl];exact e2
 rw [this];exact V
def aF{γ:Type}{p:Rp α}{q:Rp β}{r:Rp γ}{off' :Nat}{get:γ->α×β}(h:jn r off (ck p q) get)(ho:off' =off+p.sz):jn r off' q (fun x=>(get x).2):=fun S cs x k=>by
 obtain⟨a,b,e,V,Z⟩:=h S cs x k
 have hl:=p.len V
 have hl2:=q.len Z
 have:(cs.drop off').take q.sz=b:=by
  have e2:=congrArg (List.drop p.sz) e
  rw [Cj,xH,<-hl,List.drop_left]at e2
  rw [ho,<-hl,<-e2]
  congr 1
  show q.sz=p.sz+q.sz-a.length
  omega
 rw [this];exact Z

section
variable{E:En}
def WL{op:Op}{ty:TypeId}(hj:(ops[j]?).bind (·.dst)=some gs)(hgs:Nat.blt gs E.N.n=true)(D:look G gs=some (H rB b))(hd:Nat.blt aE E.N.n=true)(h:b=true->cE E O G ⟨some aE,op,ty,pos,after,some (j,true)⟩ t)(k:RG E ops ah rest O ((aE,qb b t)::G)):RG E ops ah (⟨some aE,op,ty,pos,after,some (j,true)⟩::rest) O G:=by
 have e:(true&&(b==true))=b:=by cases b<;>rfl
 exact Kw hj hgs (wt D) hd (by rw [e];exact h) (by rw [e];exact k)
def WM{op:Op}{ty:TypeId}(hj:(ops[j]?).bind (·.dst)=some gs)(hgs:Nat.blt gs E.N.n=true)(D:look G gs=some (H rB b))(hd:Nat.blt aE E.N.n=true)(h:(!b)=true->cE E O G ⟨some aE,op,ty,pos,after,some (j,false)⟩ t)(k:RG E ops ah rest O ((aE,qb (!b) t)::G)):RG E ops ah (⟨some aE,op,ty,pos,after,some (j,false)⟩::rest) O G:=by
 have e:(true&&(b==false))= !b:=by cases b<;>rfl
 exact Kw hj hgs (wt D) hd (by rw [e];exact h) (by rw [e];exact k)
def ej{c:Bool}{op:Op}{ty:TypeId}(hj:(ops[j]?).bind (·.dst)=some gs)(hgs:Nat.blt gs E.N.n=true)(D:look G gs=some (qb c (H rB b)))(hd:Nat.blt aE E.N.n=true)(h:(c&&b)=true->cE E O G ⟨some aE,op,ty,pos,after,some (j,true)⟩ t)(k:RG E ops ah rest O ((aE,qb (c&&b) t)::G)):RG E ops ah (⟨some aE,op,ty,pos,after,some (j,true)⟩::rest) O G:=by
 have e:(c&&(b==true))=(c&&b):=by cases b<;>rfl
 exact Kw hj hgs (D3 D) hd (by rw [e];exact h) (by rw [e];exact k)
def ft{c:Bool}{op:Op}{ty:TypeId}(hj:(ops[j]?).bind (·.dst)=some gs)(hgs:Nat.blt gs E.N.n=true)(D:look G gs=some (qb c (H rB b)))(hd:Nat.blt aE E.N.n=true)(h:(c&& !b)=true->cE E O G ⟨some aE,op,ty,pos,after,some (j,false)⟩ t)(k:RG E ops ah rest O ((aE,qb (c&& !b) t)::G)):RG E ops ah (⟨some aE,op,ty,pos,after,some (j,false)⟩::rest) O G:=by
 have e:(c&&(b==false))=(c&& !b):=by cases b<;>rfl
 exact Kw hj hgs (D3 D) hd (by rw [e];exact h) (by rw [e];exact k)
def j6{l:List Oper}{need:mK}(D:o.guard=some (j,true))(hj:((l.toArray)[j]?).bind (·.dst)=some gs)(hgs:Nat.blt gs E.N.n=true)(Y:look need gs=some (H rB b))(h:b=true->cE E O need o t):bo E O l.toArray need o (qb b t):=by
 have e:(true&&(b==true))=b:=by cases b<;>rfl
 have:=z1 (t:=t) D hj hgs (wt (E:=E) Y) (by rw [e];exact h)
 rwa [e]at this
def ep{l:List Oper}{need:mK}(D:o.guard=some (j,false))(hj:((l.toArray)[j]?).bind (·.dst)=some gs)(hgs:Nat.blt gs E.N.n=true)(Y:look need gs=some (H rB b))(h:(!b)=true->cE E O need o t):bo E O l.toArray need o (qb (!b) t):=by
 have e:(true&&(b==false))= !b:=by cases b<;>rfl
 have:=z1 (t:=t) D hj hgs (wt (E:=E) Y) (by rw [e];exact h)
 rwa [e]at this
def qJ{l:List Oper}{need:mK}{c:Bool}(D:o.guard=some (j,true))(hj:((l.toArray)[j]?).bind (·.dst)=some gs)(hgs:Nat.blt gs E.N.n=true)(Y:look need gs=some (qb c (H rB b)))(h:(c&&b)=true->cE E O need o t):bo E O l.toArray need o (qb (c&&b) t):=by
 have e:(c&&(b==true))=(c&&b):=by cases b<;>rfl
 have:=z1 (t:=t) D hj hgs (D3 (E:=E) Y) (by rw [e];exact h)
 rwa [e]at this
def si{a:Bool}(h:a=true)(k:b=true):(a&&b)=true:=by rw [h,k];rfl
def nR{a:Bool}(h:a=false):(!a)=true:=by rw [h];rfl
def qA{c:Operand}{x:Code}(Y:bf E.N G c (H rB b))(h:b=true)(A:CG E ah x O G):CG E ah (.cond c x y) O G:=FQ Y (fun _=>A) (fun e=>by rw [h]at e;cases e)
def qB{c:Operand}{x:Code}(Y:bf E.N G c (H rB b))(h:b=false)(hy:CG E ah y O G):CG E ah (.cond c x y) O G:=FQ Y (fun e=>by rw [h]at e;cases e) (fun _=>hy)
end
def UA [Inhabited α]{x:Option α}{k:α->Option β}{r:β}(h:b=true->x.bind k=some r): ∃y,b=true->x=some y/\k y=some r:=by
 cases b with
 |true=>obtain⟨y,V,Z⟩:=bs (h rfl);exact⟨y,fun _=>⟨V,Z⟩⟩
 |false=>exact⟨default,fun e=>(by cases e)⟩
section
variable{E:En}{ty:TypeId}
def jw{c:Operand}(hc:bf E.N G c (H rB b))(A:b=true->bf E.N G x (H rB q)):cE E O G ⟨dst,.pick c x (.const (.bool false)),ty,pos,after,g⟩ (H rB (b&&q)):=by
 refine FA hc (fun h=>?_) (fun h=>?_)
 ·subst h;exact A rfl
 ·subst h;exact hB
def DW{c:Operand}(hc:bf E.N G c (H rB b))(A:b=false->bf E.N G x (H rB q)):cE E O G ⟨dst,.pick c (.const (.bool true)) x,ty,pos,after,g⟩ (H rB (b||q)):=by
 refine FA hc (fun h=>?_) (fun h=>?_)
 ·subst h;exact hB
 ·subst h;exact A rfl
def bJ{c:Operand}{t:Bool}(hc:bf E.N G c (H rB b))(A:b=true->bf E.N G x (H rB q))(e1:b=true->some q=some t)(e0:b=false->some false=some t):cE E O G ⟨dst,.pick c x (.const (.bool false)),ty,pos,after,g⟩ (H rB t):=by
 refine FA hc (fun h=>?_) (fun h=>?_)
 ·rw [<-so (e1 h)];exact A h
 ·rw [<-so (e0 h)];exact hB
def cV{c:Operand}{t:Bool}(hc:bf E.N G c (H rB b))(A:b=false->bf E.N G x (H rB q))(e1:(!b)=true->some q=some t)(e0:(!b)=false->some true=some t):cE E O G ⟨dst,.pick c (.const (.bool true)) x,ty,pos,after,g⟩ (H rB t):=by
 refine FA hc (fun h=>?_) (fun h=>?_)
 ·rw [<-so (e0 (by rw [h];rfl))];exact hB
 ·rw [<-so (e1 (by rw [h];rfl))];exact A h
def GP(hi:ts[i]? =some t)(A:bf E.N G x (tT ts)):cE E O G ⟨dst,.extract x i,ty,pos,after,g⟩ t:=
 .of_pure fun a w S _ _ hf=>by
  obtain⟨vs,V,Z⟩:=A S a hf
  obtain⟨v,h3,h4⟩:=Z.at_ i t hi
  exact⟨v,by simp [execOp,V,Instr.extract,h3],h4⟩
def FB{y:Operand}{k:IntKind}{m n:Int}(A:bf E.N G x (H (rI k) m))(hy:bf E.N G y (H (rI k) n)):cE E O G ⟨dst,.call ⟨.builtin .max,#[x,y],ats⟩,ty,pos,after,g⟩ (H (rI k) (max m n)):=
 .of_pure fun a w S _ _ hf=>by
  have V:a.eval x= .int k m:=ge.1 (A S a hf)
  have Z:a.eval y= .int k n:=ge.1 (hy S a hf)
  refine⟨.int k (if n>m then n else m),by simp [execOp,resolve,invoke,builtin,Builtin.max_,Builtin.max2,V,Z],ge.2 ?_⟩
  congr 1
  rw [Int.max_def]
  split<;>split<;>omega
def oQ{y:Operand}{k:IntKind}{m n:Int}(A:bf E.N G x (H (rI k) m))(hy:bf E.N G y (H (rI k) n)):cE E O G ⟨dst,.call ⟨.builtin .min,#[x,y],ats⟩,ty,pos,after,g⟩ (H (rI k) (min m n)):=
 .of_pure fun a w S _ _ hf=>by
  have V:a.eval x= .int k m:=ge.1 (A S a hf)
  have Z:a.eval y= .int k n:=ge.1 (hy S a hf)
  refine⟨.int k (if n<m then n else m),by simp [execOp,resolve,invoke,builtin,Builtin.min_,Builtin.min2,V,Z],ge.2 ?_⟩
  congr 1
  rw [Int.min_def]
  split<;>split<;>omega

def gV(P:Program){α β:Type}(args:α->List Ty)(res:β->Ty)(f:α->Option β):Ty where
 p:=fun S v=> ∃fid cap,v= .func (.func fid) #[] cap/\ak P fid=true/\ ∀x y,f x=some y-> ∀w S' vs,sj S S' ->mT w S' ->AR S' (args x) vs->
  Calls P fid (vs.toArray++cap) w fun e w' => ∃v S'',e= .returned v/\lr wm w S' w' S'' /\mT w' S'' /\(res y).p S'' v
 mono:=fun h ⟨f,cap,e,hc,k⟩=>⟨f,cap,e,hc,fun x y hxy w S' vs hle=>k x y hxy w S' vs (SH.le_trans h hle)⟩
def UE{N:Fr}{P:Program}{f:α->Option β}{fid:FuncId}(hc:ak P fid=true)(hs: ∀x y,f x=some y->cI P fid (args x) (res y)):bf N G (.func fid) (gV P args res f):=fun S a _=>
 ⟨fid,#[],rfl,hc,fun x y h w S' vs _ hsat hv=>by simpa using hs x y h w S' vs hsat hv⟩
def AR.append: ∀{ts us:List Ty} {vs ws:List Value},AR S ts vs->AR S us ws->AR S (ts++us) (vs++ws)
 |[],_,[],_,_,h=>h
 |_::_,_,_::_,_,⟨V,Z⟩,h=>⟨V,AR.append Z h⟩
def pf{f:α->Option β}{fid:FuncId}{caps:List Operand}{cts:List Ty}(hc:ak E.P fid=true)(hcap:kL E.N G caps cts)(hs: ∀x y,f x=some y->cI E.P fid (args x++cts) (res y)):cE E O G ⟨dst,.makeFunc (.func fid) #[] caps.toArray,ty,pos,after,g⟩ (gV E.P args res f):=
 .of_pure fun a w S _ _ hf=>by
  refine⟨.func (.func fid) #[] (caps.map a.eval).toArray,by simp [execOp,Instr.makeFunc],fid,_,rfl,hc,fun x y h w' S' vs hle hsat hv=>?_⟩
  have hcv:=(hcap.tys hf).mono hle
  simpa using hs x y h w' S' _ hsat (hv.append hcv)
def iE{f:α->Option β}{fo:Operand}{x:α}{y:β}{xs:List Operand}(hfo:bf E.N G fo (gV E.P args res f))(h:f x=some y)(A:kL E.N G xs (args x)):
  cE E O G ⟨dst,.call ⟨.value fo,xs.toArray,ats⟩,ty,pos,after,g⟩ (res y):=fun a w S hS _ hF=>by
 obtain⟨fid,cap,e,hc,hs⟩:=hfo S a hF
 have hr:(execOp a.eval ⟨dst,.call ⟨.value fo,xs.toArray,ats⟩,ty,pos,after,g⟩).run E.P w= .ok (.enter fid ((xs.map a.eval).toArray++cap)) w:=by
  simp [execOp,resolve,e,Deferred.ofValue,invoke,ko hc]
 refine⟨fun c h=>(by cases h),?_⟩
 rw [hr]
 exact(hs x y h w S _ (SH.le_refl _) hS (A.tys hF)).mono fun e w' ⟨v,S',he,V,Z,h3⟩=>⟨v,he,v,S',rfl,V,Z,h3⟩
end
def cI.of{P:Program}{N:Nat}(hf:P.funcs[f]? =some fn)(Y:fn.body=some c)(hN:fn.ntmps=N)(hn:Nat.ble ts.length N=true)(h: ∀w0 S0,CG ⟨P,⟨N,[]⟩,wm,w0,S0,none⟩ (bodyPost P fn (N1 ⟨P,⟨N,[]⟩,wm,w0,S0,none⟩ t)) c [] (Bb 0 ts)):cI P f ts t:=by
 subst hN
 exact Kv hf Y (ul hn) h
def nn{α:Type _}{r:α}(h:(none:Option α)=some r):False:=by cases h
def y6{N:Fr}:bf N G (.const (.slice none 0 0)) (tV (J none 0 0)):=fun _ _ _=>rfl
def gi:Nat:=2^64
section
variable{E:En}{ty:TypeId}
def Nr(l:Option Nat)(cap n:Nat)(h:l=none->n=0): ∃a c,J l cap n= .slice a n c:=by
 cases l with
 |none=>rw [h rfl];exact⟨none,0,rfl⟩
 |some b=>exact⟨_,cap,rfl⟩
def iv{r:Rp α}{n:Nat}{t:TypeId}(M:E.P.underlying t=some (.slice e))(hm:mj mm r T l cap xs∈O)(A:bf E.N G x (tV (J l cap n)))(hn:n=xs.length:=by rfl):
  cE E O G ⟨dst,.call ⟨.builtin .len,#[x],#[t]⟩,ty,pos,after,g⟩ (H (rI .i64) (n:Int)):=
 .of_pure fun a w S _ ho hf=>by
  have V:a.eval x=J l cap n:=A S a hf
  have Z:=(ho.mem _ hm).1
  obtain⟨ad,c,h3⟩:=Nr l cap n (fun e=>by subst e;obtain⟨_,h4,_⟩:=Z;rw [hn];exact h4.1)
  refine⟨.int .i64 n,?_,ge.2 rfl⟩
  simp [execOp,resolve,invoke,builtin,Builtin.len_,ka M,V,h3,goInt]
end
end Go.Proofs.YthbdkceckjihgaaGreatDoor

