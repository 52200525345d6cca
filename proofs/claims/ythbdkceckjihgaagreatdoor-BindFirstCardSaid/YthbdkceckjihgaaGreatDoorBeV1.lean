/- cu of this claim: W1, W49, W2, W3, W4, W5, W6, W7, W8, W9, W10, W11. -/
import Derived.WalkKit
import Derived.Orders
import Derived.Shelf.Unicode.CaseTo
import Derived.Shelf.Unicode.DecodeSlow
import Derived.Lone
import Derived.RunT
import Derived.Calls
import Derived.RangeFuncIn
import Derived.TacticsIn
import Derived.OrdersIn
import Derived.LoopIn
import Derived.Laws.AppendOwn
import Derived.Deep.Upon
import Derived.Lib.AppendStr
import Derived.IntWalk
set_option linter.all false
namespace Go.Proofs.YthbdkceckjihgaaGreatDoor
open Go
def aP:= @Option.bind_some
def bv:= @if_neg
def bD:= @if_pos
def eO:= @Nat.le_refl
def ma:= @List.mem_cons_of_mem
def lL:= @List.mem_cons_self
def li:= @decide_eq_true_eq
def qB:= @List.getElem?_eq_some_iff
def mV:= @List.length_append
def fk:= @List.append_assoc
def jA:= @List.getElem?_eq_getElem
def gU:= @Bool.and_eq_true
def eW:= @List.mem_cons
def gz:= @List.length_cons
def jS:= @Bool.false_eq_true
def g9:= @run_underlying
def nl:= @decide_eq_false_iff_not
def nv:= @List.take_of_length_le
def pC:= @List.drop_eq_getElem_cons
def oE:= @List.drop_of_length_le
def nU:= @Nat.eq_of_beq_eq_true
def ij:= @Nat.zero_le
def mo:= @List.all_eq_true
def qE:= @Nat.le_of_ble_eq_true
def vF:= @List.take_append_of_le_length
def vE:= @List.eq_nil_of_length_eq_zero
def tX:= @List.getElem?_append_right
def qU:= @List.take_append_drop
def qD:= @List.mem_of_getElem?
def nu:= @List.nil_append
def oD:= @Option.some.inj
def lM:= @Nat.le_trans
def mb:= @Nat.lt_or_ge
def ql:= @Result.andThen_ok
def ii:= @if_false
def oJ:= @decide_eq_true
def pB:= @List.length_nil
def gW:= @if_true
def yI:= @Array.getElem?_eq_some_iff
def pA:= @List.drop_zero
def oI:= @Bool.not_true
def qC:= @decide_eq_false
def yH:= @Array.getElem?_replicate
def zG:= @List.getElem?_append_left
def qk:= @List.all_cons
def pr:= @Sem.run_bind
def xO:= @List.length_singleton
def vD:= @List.getElem?_drop
def pz:= @Nat.zero_add
def tR:= @List.cons_append
def AR:= @List.getElem?_take_of_lt
def qT:= @List.map_cons
def yG:= @Nat.mul_le_mul_right
def tQ:= @Bool.eq_iff_iff
def vO:= @Bool.not_eq_true'
def xN:= @List.mem_singleton
def tw:= @Bool.true_and
def uo:= @List.drop_drop
def xL:= @decide_eq_decide
def vN:= @Bool.or_eq_true
def zF:= @Stepped.next.injEq
def GW:= @Array.getD_eq_getD_getElem?
def xK:= @List.mem_append
def yF:= @IntKind.wrap_i64
def yE:= @List.length_take
def J9:= @List.take_succ_eq_append_getElem
def Da:= @List.mem_append_left
def zE:= @Nat.min_eq_left
def zD:= @List.append_nil
def AP:= @Bool.not_eq_true
def xJ:= @getD_set_true
def J8:= @List.drop_append_of_le_length
def yD:= @Bool.false_or
def Cq:= @List.any_eq_true
def Fj:= @Array.length_toList
def GV:= @List.singleton_append
def C9:= @Option.some.injEq
def AO:= @Bool.not_false
def GU:= @Bool.or_eq_false_iff
def xI:= @Nat.add_mul
def Ic:= @MapKept.run_getObj_map
def vM:= @bne_iff_ne
def vL:= @Nat.blt_eq
def AN:= @List.any_cons
def zC:= @List.mem_map
def vg:= @List.take_take
def xZ:= @beq_self_eq_true
def BR:= @Bool.and_eq_true_iff
def xY:= @List.take_length
def zL:= @Int.toNat_natCast
def xX:= @List.length_map
def zK:= @List.length_drop
def xW:= @heap_alloc_new
def sG:= @beq_iff_eq
def FO:= @List.getElem?_cons_zero
def rK:= @mem_ready
def vf:= @getD_set_ne
def zJ:= @List.drop_take
def FN:= @List.getElem?_eq_none
def vR:= @Prod.mk.inj
def Dg:= @List.size_toArray
def zI:= @List.cons.inj
def Ik:= @List.mem_singleton_self
def Ma:= @List.idxOf_lt_length_of_mem
def FM:= @Nat.lt_of_lt_of_le
def Df:= @List.length_set
def rJ:= @Iff.rfl
def Ij:= @List.contains_iff_mem
def De:= @Option.map_some
def FL:= @Bool.eq_false_iff
def FK:= @List.getElem?_map
def Ii:= @List.drop_eq_nil_iff
def BO:= @Sem.run_pure
def BN:= @Sem.runT_fst
def BM:= @List.map_nil
def BL:= @Nat.le_of_eq
def Ih:= @List.map_congr_left
def Ig:= @beq_eq_false_iff_ne
def FI:= @List.map_append
def L9:= @Array.toList_replicate
def L8:= @MapKept.run_setObj_map
def L7:= @Option.map_eq_some_iff
def L6:= @List.drop_eq_nil_of_le
def Ie:= @List.ext_getElem?
def L5:= @Array.getElem?_toList
def Dd:= @Nat.sub_self
def L4:= @List.mem_append_right
def L0:= @List.countP_replicate
def Dc:= @Nat.add_zero
def LZ:= @MapKept.run_checkKey
def Id:= @List.getElem_mem
def FH:= @Prod.mk.injEq
def Db:= @Nat.mul_one

def Fh:Obj->Obj->Prop
 | .cells c E fr,o' => ∃d:List Value,o' = .cells (c.toList++d).toArray E fr
 |o,o' =>o' =o
variable{o:Oper}
def ua(o:Obj):Fh o o:=by
 cases o<;>first|rfl|exact⟨[],by simp⟩
variable{c:Code}{cells:List Value}{d:Nat}{fr:Nat×Nat}{k:Nat}{o' :Obj}
def Gb{o o'' :Obj}(h:Fh o o')(k:Fh o' o''):Fh o o'' :=by
 cases o with
 |cells c E fr=>
  obtain⟨d,rfl⟩:=h
  obtain⟨d',rfl⟩:=k
  exact⟨d++d',by simp⟩
 |_=>cases h;exact k
variable{off:Nat}
def D7{c:Array Value}{E:TypeId}(h:Fh (.cells c E fr) o'){n:Nat}(hl:((c.toList.drop off).take n).length=n):
  ∃c',o' = .cells c' E fr/\(c'.toList.drop off).take n=(c.toList.drop off).take n:=by
 obtain⟨d,rfl⟩:=h
 refine⟨_,rfl,?_⟩
 by_cases hn:n=0
 ·subst hn;simp
 simp only [yE,zK]at hl
 rw [J8 (by omega),vF (by simp only [zK];omega)]
abbrev SH:=Nat->Option Obj
def pm(S S' :SH):Prop:= ∀b o,S b=some o-> ∃o',S' b=some o' /\Fh o o'
variable{S:SH}
def SH.le_refl(S:SH):pm S S:=fun _ o h=>⟨o,h,ua o⟩
variable{S' S'' :SH}{b:Bool}{e:TypeId}
def SH.le_trans(h:pm S S')(k:pm S' S''):pm S S'' :=fun b o e=>let⟨o',A,D⟩:=h b o e;let⟨o'',h3,h4⟩:=k b o' A;⟨o'',h3,Gb D h4⟩
structure Ty where
 p:SH->Value->Prop
 mono: ∀{S S' :SH} {v:Value},pm S S' ->p S v->p S' v

structure Rp(α:Type) where
 sz:Nat
 agg:Bool
 rc:SH->List Value->α->Prop
 mono: ∀{S S' :SH} {cs:List Value} {x:α},pm S S' ->rc S cs x->rc S' cs x
 len: ∀{S:SH} {cs:List Value} {x:α},rc S cs x->cs.length=sz
 one: ∀{S:SH} {cs:List Value} {x:α},rc S cs x-> ∀c∈cs,c.oneCell' =true
 sc:agg=false->sz=1

def Rp.val{α:Type}(r:Rp α)(cs:List Value):Value:=if r.agg then .agg cs.toArray else cs.headD undef

def K{α:Type}(r:Rp α)(x:α):Ty where
 p:=fun S v=> ∃cs,v=r.val cs/\r.rc S cs x
 mono:=fun h ⟨cs,e,k⟩=>⟨cs,e,r.mono h k⟩

def tz:Ty where
 p:=fun _ _=>True
 mono:=fun _ _=>trivial

def Q(u:Value):Ty where
 p:=fun _ v=>v=u
 mono:=fun _ h=>h

def rI(k:IntKind):Rp Int where
 sz:=1
 agg:=false
 rc:=fun _ cs x=>cs=[.int k x]
 mono:=fun _ h=>h
 len:=fun h=>by rw [h];rfl
 one:=fun h c hc=>by subst h;simp at hc;subst hc;rfl
 sc:=fun _=>rfl

def rB:Rp Bool where
 sz:=1
 agg:=false
 rc:=fun _ cs x=>cs=[.bool x]
 mono:=fun _ h=>h
 len:=fun h=>by rw [h];rfl
 one:=fun h c hc=>by subst h;simp at hc;subst hc;rfl
 sc:=fun _=>rfl

abbrev bZ:=List UInt8
def rS:Rp bZ where
 sz:=1
 agg:=false
 rc:=fun _ cs x=>cs=[.string ⟨x.toArray⟩]
 mono:=fun _ h=>h
 len:=fun h=>by rw [h];rfl
 one:=fun h c hc=>by subst h;simp at hc;subst hc;rfl
 sc:=fun _=>rfl

variable{cs:List Value}{v:Value}
def eF{k:IntKind}{n:Int}:(K (rI k) n).p S v↔v= .int k n:=by
 constructor
 ·rintro⟨cs,rfl,h⟩;have h' :cs=[.int k n]:=h;subst h';rfl
 ·rintro rfl;exact⟨[.int k n],rfl,rfl⟩
def i6:(K rB b).p S v↔v= .bool b:=by
 constructor
 ·rintro⟨cs,rfl,h⟩;have h' :cs=[.bool b]:=h;subst h';rfl
 ·rintro rfl;exact⟨[.bool b],rfl,rfl⟩
variable{α:Type}{s:Sem α}
def rO{s:bZ}:(K rS s).p S v↔v= .string ⟨s.toArray⟩:=by
 constructor
 ·rintro⟨cs,rfl,h⟩;have h' :cs=[.string ⟨s.toArray⟩]:=h;subst h';rfl
 ·rintro rfl;exact⟨[.string ⟨s.toArray⟩],rfl,rfl⟩

def qA{α:Type}(r:Rp α)(S:SH):List Value->List α->Prop
 |cs,[]=>cs=[]
 |cs,x::xs=> ∃a b,cs=a++b/\r.rc S a x/\qA r S b xs
variable{a:Act}{xs:List α}
def qp{α:Type}{r:Rp α}{S S' :SH}(h:pm S S'): ∀{xs:List α} {cs:List Value},qA r S cs xs->qA r S' cs xs
 |[],_,k=>k
 |_::_,_,⟨a,b,e,A,D⟩=>⟨a,b,e,r.mono h A,qp h D⟩
variable{x:Operand}
def kC{α:Type}{r:Rp α}{S:SH}: ∀{xs:List α} {cs:List Value},qA r S cs xs->cs.length=xs.length*r.sz
 |[],_,k=>by rw [show _=_ from k];simp
 |x::xs,_,⟨a,b,e,A,D⟩=>by rw [e,mV,r.len A,kC D,gz,xI];omega
def z6{α:Type}{r:Rp α}{S:SH}: ∀{xs:List α} {cs:List Value},qA r S cs xs-> ∀c∈cs,c.oneCell' =true
 |[],_,k,c,hc=>by rw [show _=_ from k]at hc;cases hc
 |x::xs,_,⟨a,b,e,A,D⟩,c,hc=>by
  rw [e]at hc
  rcases xK.1 hc with h|h
  ·exact r.one A c h
  ·exact z6 D c h
variable{ys:List α}
def rZ{α:Type}{r:Rp α}{S:SH}: ∀{xs ys:List α} {cs ds:List Value},qA r S cs xs->qA r S ds ys->qA r S (cs++ds) (xs++ys)
 |[],_,_,_,k,h=>by rw [show _=_ from k];exact h
 |_::_,_,_,_,⟨a,b,e,A,D⟩,h=>⟨a,_,by rw [e,fk],A,rZ D h⟩
def oq{α:Type}{r:Rp α}{S:SH}: ∀{xs ys:List α} {cs:List Value},qA r S cs (xs++ys)->
  qA r S (cs.take (xs.length*r.sz)) xs/\qA r S (cs.drop (xs.length*r.sz)) ys
 |[],_,_,k=>by simp [qA];exact k
 |x::xs,ys,cs,⟨a,b,e,A,D⟩=>by
  have hl:=r.len A
  have ih:=oq D
  have e1:(x::xs).length*r.sz=a.length+xs.length*r.sz:=by rw [hl,gz,xI];omega
  rw [e,e1,List.take_length_add_append,List.drop_length_add_append]
  exact⟨⟨a,_,rfl,A,ih.1⟩,ih.2⟩
def KH{r:Rp α}{x:α}:qA r S cs [x]↔r.rc S cs x:=by
 constructor
 ·rintro⟨a,b,rfl,h,H⟩
  rw [show b=[]from H,zD];exact h
 ·intro h;exact⟨cs,[],by simp,h,rfl⟩
variable{i:Nat}
def z7{r:Rp α}(h:qA r S cs xs){x:α}(V:xs[i]? =some x):
  r.rc S ((cs.drop (i*r.sz)).take r.sz) x:=by
 have hi:i<xs.length:=(qB.1 V).1
 have e:xs=xs.take i++(x::xs.drop (i+1)):=by
  have:=qB.1 V
  rw [<-this.2,<-pC hi,qU]
 have hl:(xs.take i).length=i:=by simp;omega
 rw [e]at h
 have D:=(oq h).2
 rw [hl]at D
 obtain⟨a,b,e2,h3,_⟩:=D
 rw [e2,<-r.len h3,List.take_left]
 exact h3

def IA{α:Type}(r:Rp α)(S:SH)(a:Option Addr)(xs:List α):Prop:=
 xs=[]\/ ∃b off c E fr,a=some ⟨b,off,none⟩/\S b=some (.cells c E fr)/\qA r S ((c.toList.drop off).take (xs.length*r.sz)) xs
def ek{α:Type}(r:Rp α):Rp (List α) where
 sz:=1
 agg:=false
 rc:=fun S cs xs=> ∃a cap,cs=[.slice a xs.length cap]/\xs.length<=cap/\cap<=maxLen/\IA r S a xs
 mono:=fun h ⟨a,cap,e,A,D,h3⟩=>⟨a,cap,e,A,D,h3.imp id fun⟨b,off,c,E,fr,e1,e2,e3⟩=>by
  obtain⟨o',h4,h5⟩:=h _ _ e2
  obtain⟨c',rfl,h6⟩:=D7 h5 (kC e3)
  exact⟨b,off,c',E,fr,e1,h4,by rw [h6];exact qp h e3⟩⟩
 len:=fun⟨a,cap,e,_⟩=>by rw [e];rfl
 one:=fun⟨a,cap,e,_⟩ c hc=>by rw [e]at hc;simp at hc;subst hc;rfl
 sc:=fun _=>rfl
variable{cap:Nat}
def ln{r:Rp α}:(K (ek r) xs).p S v↔ ∃a cap,v= .slice a xs.length cap/\xs.length<=cap/\cap<=maxLen/\IA r S a xs:=by
 constructor
 ·rintro⟨cs,rfl,a,cap,rfl,h⟩;exact⟨a,cap,rfl,h⟩
 ·rintro⟨a,cap,rfl,h⟩;exact⟨_,rfl,a,cap,rfl,h⟩
def zR{r:Rp α}:(K (ek r) []).p S (.slice none 0 0):=ln.2 ⟨none,0,rfl,eO _,ij _,.inl rfl⟩

def bn{α:Type}(r:Rp α)(x:α):Ty where
 p:=fun S v=> ∃b off c E fr,v= .pointer (some ⟨b,off,none⟩)/\S b=some (.cells c E fr)/\r.rc S ((c.toList.drop off).take r.sz) x
 mono:=fun h ⟨b,off,c,E,fr,e1,e2,e3⟩=>by
  obtain⟨o',h4,h5⟩:=h _ _ e2
  obtain⟨c',rfl,h6⟩:=D7 h5 (r.len e3)
  exact⟨b,off,c',E,fr,e1,h4,by rw [h6];exact r.mono h e3⟩

def glob:List (Nat×List Value):=[(0,[.string ⟨([98,111,111,108]:List UInt8).toArray⟩,.int .i64 (1),.string ⟨([105,110,116]:List UInt8).toArray⟩,.int .i64 (2),.string ⟨([116,101,120,116]:List UInt8).toArray⟩,.int .i64 (3)]),(1,[.string ⟨([83,69,76,69,67,84]:List UInt8).toArray⟩,.string ⟨([68,73,83,84,73,78,67,84]:List UInt8).toArray⟩,.string ⟨([70,82,79,77]:List UInt8).toArray⟩,.string ⟨([76,69,70,84]:List UInt8).toArray⟩,.string ⟨([74,79,73,78]:List UInt8).toArray⟩,.string ⟨([79,78]:List UInt8).toArray⟩,.string ⟨([87,72,69,82,69]:List UInt8).toArray⟩,.string ⟨([71,82,79,85,80]:List UInt8).toArray⟩,.string ⟨([66,89]:List UInt8).toArray⟩,.string ⟨([72,65,86,73,78,71]:List UInt8).toArray⟩,.string ⟨([85,78,73,79,78]:List UInt8).toArray⟩,.string ⟨([65,76,76]:List UInt8).toArray⟩,.string ⟨([79,82,68,69,82]:List UInt8).toArray⟩,.string ⟨([76,73,77,73,84]:List UInt8).toArray⟩,.string ⟨([65,83,67]:List UInt8).toArray⟩,.string ⟨([68,69,83,67]:List UInt8).toArray⟩,.string ⟨([65,83]:List UInt8).toArray⟩,.string ⟨([65,78,68]:List UInt8).toArray⟩,.string ⟨([79,82]:List UInt8).toArray⟩,.string ⟨([78,79,84]:List UInt8).toArray⟩,.string ⟨([73,83]:List UInt8).toArray⟩,.string ⟨([78,85,76,76]:List UInt8).toArray⟩,.string ⟨([84,82,85,69]:List UInt8).toArray⟩,.string ⟨([70,65,76,83,69]:List UInt8).toArray⟩,.string ⟨([67,79,85,78,84]:List UInt8).toArray⟩,.string ⟨([83,85,77]:List UInt8).toArray⟩,.string ⟨([77,73,78]:List UInt8).toArray⟩,.string ⟨([77,65,88]:List UInt8).toArray⟩])]
def N2(w:World):Prop:=Lib.CaseVar 2 Lib.caseA w/\Lib.Utf8Tabs 4 5 w
structure kp(w:World)(S:SH):Prop where
 at_: ∀b o,S b=some o-> ∃o',w.heap[b]? =some o' /\Fh o o'
 gl: ∀p∈glob,∃c T fr,S p.1=some (.cells c T fr)/\c.toList.take p.2.length=p.2
 tb: ∀w' :World,(∀b o,S b=some o-> ∃o',w'.heap[b]? =some o' /\Fh o o')->N2 w'
instance{w:World}{S:SH}:CoeFun (kp w S) (fun _=> ∀b o,S b=some o-> ∃o',w.heap[b]? =some o' /\Fh o o'):=⟨kp.at_⟩
variable{w:World}
def kp.tab(h:kp w S):N2 w:=h.tb w h.at_
def kp.lt(h:kp w S){b:Nat}{o:Obj}(k:S b=some o):b<w.heap.size:=let⟨_,A,_⟩:=h b o k;(yI.1 A).1
def kp.part(h:kp w S){b:Nat}{c:Array Value}{E:TypeId}(k:S b=some (.cells c E fr)){n:Nat}(hl:((c.toList.drop off).take n).length=n):
  ∃c',w.heap[b]? =some (.cells c' E fr)/\(c'.toList.drop off).take n=(c.toList.drop off).take n:=by
 obtain⟨o',A,D⟩:=h b _ k
 obtain⟨c',rfl,h3⟩:=D7 D hl
 exact⟨c',A,h3⟩
variable{w' :World}
def kp.same(h:kp w S)(k: ∀b o,S b=some o->w'.heap[b]? =w.heap[b]?):kp w' S:=⟨fun b o e=>by rw [k b o e];exact h b o e,h.gl,h.tb⟩

def sR:Nat->Prop:=fun _=>False
structure jl(B:Nat->Prop)(w:World)(S:SH)(w' :World)(S' :SH):Prop where
 os:w'.os=w.os
 tape:w'.tape=w.tape
 output:w'.output=w.output
 drawn:w.drawn<=w'.drawn
 size:w.heap.size<=w'.heap.size
 heap: ∀k,k<w.heap.size-> ¬B k->w'.heap[k]? =w.heap[k]?
 keep:pm S S'
 old: ∀k,k<w.heap.size-> ¬B k->S' k=S k
def jl.refl(B:Nat->Prop)(w:World)(S:SH):jl B w S w S:=⟨rfl,rfl,rfl,eO _,eO _,fun _ _ _=>rfl,SH.le_refl _,fun _ _ _=>rfl⟩
variable{w'' :World}
def jl.trans{B:Nat->Prop}(h:jl B w S w' S')(k:jl B w' S' w'' S''):jl B w S w'' S'' :=
 ⟨k.os.trans h.os,k.tape.trans h.tape,k.output.trans h.output,lM h.drawn k.drawn,lM h.size k.size,
  fun i hi H=>(k.heap i (FM hi h.size) H).trans (h.heap i hi H),SH.le_trans h.keep k.keep,
  fun i hi H=>(k.old i (FM hi h.size) H).trans (h.old i hi H)⟩
variable{C:Nat->Prop}
def jl.step{B:Nat->Prop}(h:jl B w S w' S')(k:jl C w' S' w'' S'')(hC: ∀b,C b->w.heap.size<=b\/B b):jl B w S w'' S'' :=
 ⟨k.os.trans h.os,k.tape.trans h.tape,k.output.trans h.output,lM h.drawn k.drawn,lM h.size k.size,
  fun i hi H=>(k.heap i (FM hi h.size) (fun hc=>(hC i hc).elim (fun h=>by omega) H)).trans (h.heap i hi H),SH.le_trans h.keep k.keep,
  fun i hi H=>(k.old i (FM hi h.size) (fun hc=>(hC i hc).elim (fun h=>by omega) H)).trans (h.old i hi H)⟩
def jl.more{B:Nat->Prop}(h:jl B w S w' S')(k: ∀b,B b->C b):jl C w S w' S' :=
 ⟨h.os,h.tape,h.output,h.drawn,h.size,fun i hi H=>h.heap i hi (fun h=>H (k i h)),h.keep,fun i hi H=>h.old i hi (fun h=>H (k i h))⟩
def jl.step0{B:Nat->Prop}(h:jl B w S w' S')(k:jl sR w' S' w'' S''):jl B w S w'' S'' :=h.step k fun _ H=>H.elim

structure OE where
 fp:Nat->Prop
 p:World->SH->Prop
 here: ∀{w S},p w S-> ∀k,fp k->k<w.heap.size
 kept: ∀{C w w' S S'},p w S->jl C w S w' S' ->(∀k,fp k-> ¬C k)->p w' S'
def OE.holds(e:OE)(base:Nat)(B:Nat->Prop)(w:World)(S:SH):Prop:=e.p w S/\ ∀k,e.fp k->base<=k\/B k
def OE.apart(e f:OE):Prop:= ∀b,e.fp b-> ¬f.fp b
def cN(base:Nat)(B:Nat->Prop)(w:World)(S:SH):List OE->Prop
 |[]=>True
 |e::O=>e.holds base B w S/\(∀f∈O,e.apart f)/\cN base B w S O
def Ib{e:OE}{base:Nat}{B:Nat->Prop}(h:e.holds base B w S)(k:jl C w S w' S')(hC: ∀b,e.fp b-> ¬C b):e.holds base B w' S' :=⟨e.kept h.1 k hC,h.2⟩
variable{O:List OE}{f:FuncId}
def cN.ext{base:Nat}{B:Nat->Prop}(k:jl C w S w' S'): ∀{O:List OE},cN base B w S O->(∀e∈O,∀b,e.fp b-> ¬C b)->cN base B w' S' O
 |[],_,_=>trivial
 |e::_,⟨A,D,h3⟩,hC=>⟨Ib A k (hC e (lL ..)),D,cN.ext k h3 fun f hf=>hC f (ma _ hf)⟩
def cN.ext0{base:Nat}{B:Nat->Prop}(k:jl sR w S w' S')(h:cN base B w S O):cN base B w' S' O:=
 h.ext k fun _ _ _ _ H=>H
def cN.mem{base:Nat}{B:Nat->Prop}: ∀{O:List OE},cN base B w S O-> ∀e∈O,e.holds base B w S
 |_::_,⟨A,_,_⟩,_,.head _=>A
 |_::_,⟨_,_,h3⟩,_,.tail _ hm=>cN.mem h3 _ hm

abbrev lh:=List (Nat×Ty)
def look:lh->Nat->Option Ty
 |[],_=>none
 |(k,t)::G,j=>bif Nat.beq k j then some t else look G j
structure Fr where
 n:Nat
 ds:List Deferred
structure cu(N:Fr)(S:SH)(a:Act)(G:lh):Prop where
 size:a.tmps.size=N.n
 defers:a.defers=N.ds
 at_: ∀k t,look G k=some t->t.p S (a.tmps.getD k undef)
variable{G:lh}{j:Nat}{t:Ty}
def cu.mono{N:Fr}(h:cu N S a G)(k:pm S S'):cu N S' a G:=⟨h.size,h.defers,fun j t e=>t.mono k (h.at_ j t e)⟩
def cu.sub{N:Fr}{G' :lh}(h:cu N S a G)(k: ∀j t,look G' j=some t->look G j=some t):cu N S a G' :=⟨h.size,h.defers,fun j t e=>h.at_ j t (k j t e)⟩
variable{u:OE}
def cu.put{N:Fr}(h:cu N S a G)(hd:Nat.blt d N.n=true)(hv:t.p S v):cu N S (a.put (some d) v) ((d,t)::G):=by
 have hd' :d<N.n:=by simpa [vL] using hd
 refine⟨by simp [Act.put,h.size],h.defers,fun j u e=>?_⟩
 unfold look at e
 by_cases hj:d=j
 ·subst hj
  have e' :t=u:=by simpa using e
  rw [e']at hv
  simp [Act.put,GW,h.size,hd',hv]
 ·have H:Nat.beq d j=false:=by cases hh:Nat.beq d j with
   |false=>rfl
   |true=>exact absurd (nU hh) hj
  rw [H]at e
  have:=h.at_ j u e
  simpa [Act.put,GW,Array.getElem?_setIfInBounds,hj] using this
def N4:lh->lh->Prop
 |[],_=>True
 |(k,t)::G',G=>look G k=some t/\N4 G' G
def FU: ∀{G' G:lh},N4 G' G-> ∀j t,look G' j=some t->look G j=some t
 |(k,t)::G',G,⟨A,D⟩,j,u,e=>by
  unfold look at e
  by_cases H:Nat.beq k j=true
  ·rw [H]at e
   have:=nU H
   subst this
   simp only [cond_true]at e
   rw [<-e];exact A
  ·rw [AP]at H
   rw [H]at e
   exact FU D j u e

def aE(N:Fr)(G:lh)(x:Operand)(t:Ty):Prop:= ∀S a,cu N S a G->t.p S (a.eval x)
def M{N:Fr}(h:look G k=some t):aE N G (.tmp k) t:=fun _ _ hF=>hF.at_ k t h
def hI{N:Fr}{k:IntKind}{n:Int}:aE N G (.const (.int k n)) (K (rI k) n):=fun _ _ _=>eF.2 rfl
def hB{N:Fr}:aE N G (.const (.bool b)) (K rB b):=fun _ _ _=>i6.2 rfl
def hS{N:Fr}{s:Array UInt8}:aE N G (.const (.string ⟨s⟩)) (K rS s.toList):=fun _ _ _=>rO.2 rfl
def WB{N:Fr}{r:Rp α}:aE N G (.const (.slice none 0 0)) (K (ek r) []):=fun _ _ _=>zR
def hV{N:Fr}:aE N G (.const v) (Q v):=fun _ _ _=>rfl

variable{R:Ending->World->Prop}{args:α->List Ty}{bytes:Nat}{done:Array Bool}{es:Array Event}{g:Option (Nat×Bool)}{gs:Nat}{l:Option Nat}{m m' :Machine}{ops:Array Oper}{q:Bool}{rest:List Oper}
section
variable{P:Program}
def wOf{α:Type}:Result α->World
 | .ok _ w=>w
 | .halt _ w=>w
def HE(w:World)(a:Addr)(n:Nat):(w.freeze a n).drawn=w.drawn:=by unfold World.freeze;split<;>rfl
def Cy{at_:Addr}{u:TypeId}{k:Addr}{x:Bool}{r:World×List Addr}(h:w.viewStore P at_ u k v x= .ok r):r.1.drawn=w.drawn:=by
 unfold World.viewStore at h
 simp only [bind,Except.bind,pure,Except.pure,throw,throwThe,MonadExceptOf.throw]at h
 repeat' (split at h)
 all_goals first
  |(cases h;done)
  |(cases h;rfl)
def EF{a:Addr}{x:Bool}{r:World×List Addr}(h:w.farStore P a v x= .ok r):r.1.drawn=w.drawn:=by
 unfold World.farStore at h
 split at h
 ·split at h
  ·rename_i D;cases h;exact Cy D
  ·cases h
 ·cases h
def BG{α:Type}: ∀(a:Ask α) (w:World),w.drawn<=(w.ask a).2.drawn
 | .done a,w=>eO _
 | .ask what range k,w=>by
  unfold World.ask
  simp only
  split
  ·exact BG (k 0) w
  ·exact lM (Nat.le_succ _) (BG (k ((Question.extern what range).cut (w.tape w.drawn (Question.extern what range)))) {w with drawn:=w.drawn+1})
def N3(w:World)(c:Sys):w.drawn<=(w.sys c).2.drawn:=by
 unfold World.sys
 have h:=BG (Kernel.perform c w.os) w
 split
 ·exact eO _
 ·rename_i D
  rw [D]at h
  exact h
def gk{α:Type}: ∀(s:Sem α) (w:World),w.drawn<=(wOf (s.run P w)).drawn
 | .pure a,w=>eO _
 | .load m a k,w=>by
  unfold Sem.run
  split
  ·exact gk _ w
  ·split
   ·exact gk _ w
   ·exact eO _
 | .store m a v k,w=>by
  have key:w.drawn<=(wOf (match w.cell? a with
   |some _=>if w.frozen? a then .halt (.unsupported (.unsafePointer "a write to bytes that a string shares")) w else k.run P (w.setCell a v)
   |none=>match w.farStore P a v (m== .atomic)with
    | .ok (w,_)=>k.run P w
    | .error h=> .halt h w)).drawn:=by
   split
   ·split
    ·exact eO _
    ·exact gk k (w.setCell a v)
   ·split
    ·rename_i w' l h
     have:=gk k w'
     rw [show w'.drawn=w.drawn from EF h]at this
     exact this
    ·exact eO _
  cases v<;>first|exact eO _|(simp only [Sem.run];exact key)
 | .new o k,w=>gk (k w.heap.size) {w with heap:=w.heap.push o}
 | .shape r k,w=>gk (k (w.shape? r)) w
 | .freeze a n k,w=>by
  have:=gk k (w.freeze a n)
  rw [HE]at this
  exact this
 | .frozen a k,w=>gk (k (w.frozen? a)) w
 | .getObj r k,w=>by
  unfold Sem.run
  split
  ·exact eO _
  ·exact gk _ w
  ·exact eO _
 | .setObj r o k,w=>by
  unfold Sem.run
  split
  ·exact eO _
  ·exact gk k {w with heap:=w.heap.setIfInBounds r o}
  ·exact eO _
 | .choose q k,w=>by
  unfold Sem.run
  split
  ·exact gk (k 0) w
  ·exact lM (Nat.le_succ _) (gk (k (q.cut (w.tape w.drawn q))) {w with drawn:=w.drawn+1})
 | .sys c k,w=>by
  exact lM (N3 w c) (gk (k (w.sys c).1) (w.sys c).2)
 | .program k,w=>gk (k P) w
 | .mark m k,w=>gk k w
 | .halt h,w=>eO _
def cL{x:α}(h:s.run P w= .ok x w'):w.drawn<=w'.drawn:=by
 have:=gk (P:=P) s w
 rw [h]at this
 exact this
def mI{x:Halt}(h:s.run P w= .halt x w'):w.drawn<=w'.drawn:=by
 have:=gk (P:=P) s w
 rw [h]at this
 exact this
def OB{x:α}{es' :Array Event}(h:s.runT P w es=(.ok x w',es')):w.drawn<=w'.drawn:=
 cL (P:=P) (s:=s) (x:=x) (by rw [<-BN P s w es,h])
def Jo{x:Halt}{es' :Array Event}(h:s.runT P w es=(.halt x w',es')):w.drawn<=w'.drawn:=
 mI (P:=P) (s:=s) (x:=x) (by rw [<-BN P s w es,h])
def Cx{rest:Rest}{cases:Array CommCase}(h:waitingAt rest cases w=some w'):w'.drawn=w.drawn:=by
 unfold waitingAt at h
 repeat' (split at h)
 all_goals (cases h;try rfl)
def AA(rest:Rest)(gs:Array Goroutine)(i:Nat)(g:Goroutine)(cases:Array CommCase)(blocking:Bool)
  (shape:CommShape)(w:World)(m' :Machine)(h:(communicate P rest gs i g cases blocking shape w).1= .next m'):w.drawn<=m'.world.drawn:=by
 unfold communicate at h
 simp only []at h
 repeat' first
  |(simp at h;done)
  |(simp only [zF]at h;subst h;(try dsimp only);exact eO _)
  |(simp only [zF]at h;subst h;(try dsimp only);exact cL (by assumption))
  |(simp only [zF]at h;subst h;(try dsimp only);exact BL (Cx (by assumption)).symm)
  |(simp only [zF]at h;subst h;(try dsimp only);exact lM (cL (by assumption)) (cL (by assumption)))
  |(simp only [zF]at h;subst h;(try dsimp only);exact lM (cL (by assumption)) (mI (by assumption)))
  |split at h
def Ee(gs:Array Goroutine)(rest:Rest)(w:World)(m' :Machine)
  (h:Go.look P gs rest w= .next m'):w.drawn<=m'.world.drawn:=by
 unfold Go.look at h
 simp only []at h
 repeat' first
  |(simp at h;done)
  |(simp only [zF]at h;subst h;(try dsimp only);exact cL (by assumption))
  |split at h
def C1(d:Nat):GStep->Prop
 | .go _ w _=>d<=w.drawn
 | .comm _ _ _ _ w _=>d<=w.drawn
 | .spawn _ _ w _=>d<=w.drawn
 | .count _ w _=>d<=w.drawn
 | .timer _ _ w _=>d<=w.drawn
 | .alone _ _ w _=>d<=w.drawn
 | .newcoro _ _ _ w _=>d<=w.drawn
 | .coroswitch _ _ _ w _=>d<=w.drawn
 | .collect _ w _=>d<=w.drawn
 | .watch _ w _=>d<=w.drawn
 | .ended _ _ _=>True
def pP{s:GStep}(h:C1 d s):C1 d (s.after es):=by cases s<;>exact h
def se{e:Nat}{s:GStep}(h:C1 d s)(k:e<=d):C1 e s:=by
 cases s<;>first|exact lM k h|trivial
def Ls(d:Nat)(w:World)(fd:Nat)(text:ByteArray)(o:Outcome):C1 d (endWith w fd text o):=by
 unfold endWith
 repeat' split
 all_goals trivial
def Rh(fr:Frame)(fS:List ByteArray)(m:String)(whole:Bool)(w:World):C1 w.drawn (dieOf fr fS m whole w):=eO _
def tk(fr:Frame)(m:String)(w:World):C1 w.drawn (endThrow fr m w):=eO _
def wI(fr:Frame)(v:Value)(w:World):C1 w.drawn (endPrinting P fr v w):=by
 unfold endPrinting
 simp only []
 split
 ·exact eO _
 ·trivial
def Cm(fr:Frame)(callers:List Frame)(dying:Option Dying)(m:String)(w:World):C1 w.drawn (endFatal P fr callers dying m w):=by
 unfold endFatal
 simp only []
 split
 ·exact se (Rh _ _ _ _ _) (cL (by assumption))
 ·trivial
 ·trivial
def Kf(fr:Frame)(d:Dying)(f:Fatal)(w:World):C1 w.drawn (writeOn P fr d f w):=by
 unfold writeOn
 simp only []
 split
 ·trivial
 ·split
  ·exact OB (by assumption)
  ·exact Jo (by assumption)
  ·trivial
  ·trivial
def VP(fr:Frame)(d:Dying)(w:World):C1 w.drawn (die P fr d w):=by
 unfold die
 simp only []
 split
 ·exact Kf _ _ _ _
 ·split
  ·split
   ·exact eO _
   ·exact Ls _ _ _ _ _
  ·split
   ·exact eO _
   ·split
    ·exact cL (by assumption)
    ·trivial
   ·apply pP
    split
    ·exact cL (P:=P) (by rw [<-BN];assumption)
    ·exact cL (P:=P) (by rw [<-BN];assumption)
    ·trivial
    ·exact se (wI _ _ _) (mI (P:=P) (by rw [<-BN];assumption))
    ·trivial
   ·trivial
def pN{x:α}(h:(s.runT P w es).1= .ok x w'):w.drawn<=w'.drawn:=cL (P:=P) (s:=s) (x:=x) (by rw [<-BN P s w es,h])
def sY{x:Halt}(h:(s.runT P w es).1= .halt x w'):w.drawn<=w'.drawn:=mI (P:=P) (s:=s) (x:=x) (by rw [<-BN P s w es,h])
def wJ(main:Bool)(fr:Frame)(callers:List Frame)(dying:Option Dying)(v:Value)(w:World):C1 w.drawn (doReturn P main fr callers dying v w):=by
 unfold doReturn
 simp only []
 repeat' split
 all_goals first|exact eO _|trivial
def HB{c:Prop} [Decidable c]{a b:GStep}(ha:C1 d a)(H:C1 d b):C1 d (if c then a else b):=by split<;>assumption
def CL(fr:Frame)(callers:List Frame)(dying:Option Dying)(d:Deferred)(w:World):C1 w.drawn (callDeferred P fr callers dying d w):=by
 unfold callDeferred
 simp only []
 refine HB trivial (pP ?_)
 split
 all_goals first
  |exact pN (by assumption)
  |exact sY (by assumption)
  |trivial
  |exact se (Cm _ _ _ _ _) (sY (by assumption))
  |exact se (tk _ _ _) (sY (by assumption))
  |(split<;>exact pN (by assumption))
def NV(main:Bool)(fr:Frame)(callers:List Frame)(dying:Option Dying)(w:World):C1 w.drawn (unwind P main fr callers dying w):=by
 unfold unwind
 simp only []
 split
 ·apply pP
  split
  ·exact pN (by assumption)
  ·trivial
 ·exact CL _ _ _ _ _
 ·split
  ·trivial
  ·split
   ·trivial
   ·split
    ·exact eO _
    ·split
     ·split
      ·exact eO _
      ·split
       ·exact cL (by assumption)
       ·trivial
       ·trivial
     ·split
      ·exact wI _ _ _
      ·trivial
  ·split
   ·exact wJ _ _ _ _ _ _
   ·apply pP
    split
    ·exact se (wJ _ _ _ _ _ _) (pN (by assumption))
    ·trivial
    ·trivial
def Rd(fr:Frame)(callers:List Frame)(dying:Option Dying)(g:Nat)(w:World):C1 w.drawn (early P fr callers dying g w):=by
 have hn: ∀w1:World,w.drawn<=w1.drawn->C1 w.drawn (match w1.heap[g]? with
   |some (.pending c elem)=> .go {frame:=fr,callers,status:= .running,dying} {w1 with heap:=w1.heap.setIfInBounds g (.cells c elem)}
   |_=> .ended (.stuck "early: the variable does not wait" (fr.pos P)) w1):=fun w1 h=>by
  split
  ·exact h
  ·trivial
 unfold early
 simp only []
 repeat' first
  |trivial
  |exact hn _ (eO _)
  |exact eO _
  |exact hn _ (cL (by assumption))
  |exact cL (P:=P) (by assumption)
  |split
def wO(main:Bool)(listen:Bool)(fr:Frame)(callers:List Frame)(dying:Option Dying)(s:Sem Next)(w:World):C1 w.drawn (stepG.apply P listen fr callers dying s w):=by
  unfold stepG.apply
  simp only []
  apply pP
  have hr:(if listen=true then s.runT P w #[]else(s.run P w,#[])).1=s.run P w:=by
    split
    · exact BN _ _ _ _
    · rfl
  rw [hr]
  split
  all_goals first
    |exact cL (by assumption)
    |exact mI (by assumption)
    |trivial
    |exact se (Cm _ _ _ _ _) (mI (by assumption))
    |exact se (tk _ _ _) (mI (by assumption))
    |exact se (Rd _ _ _ _ _) (mI (by assumption))
    | (repeat' split
       all_goals first
        |exact cL (by assumption)
        |exact se (tk _ _ _) (cL (by assumption)))
def Sh(main listen:Bool)(fr:Frame)(callers:List Frame)(dying:Option Dying)(w:World):C1 w.drawn (stepG.oper P listen fr callers dying w):=by
 unfold stepG.oper
 split
 ·trivial
 ·split
  ·exact wO main _ _ _ _ _ _
  ·exact wO main _ _ _ _ _ _
def Tl(main listen:Bool)(fr:Frame)(callers:List Frame)(dying:Option Dying)(w:World):C1 w.drawn (stepG.exec P main listen fr callers dying w):=by
 have leave: ∀(c:Prop) (_:Decidable c) (jump:Option Code),C1 w.drawn (match fr.roundOf with
   |none=>if c then GStep.go {frame:={fr with mode:= .returning},callers,status:= .running,dying} w else .ended (.stuck "exit, goto: no such block or label" (fr.pos P)) w
   |some l=>GStep.after (seen P fr.fn ((Instr.endRound l jump).runT P w #[]).2) (match ((Instr.endRound l jump).runT P w #[]).1 with
    | .ok v w=>doReturn P main fr callers dying v w
    | .halt _ w=> .ended (.stuck "range over a function: no such loop" (fr.pos P)) w)):=fun c _ jump=>by
  split
  ·exact HB (eO _) trivial
  ·apply pP
   split
   ·exact se (wJ _ _ _ _ _ _) (pN (by assumption))
   ·trivial
 unfold stepG.exec
 simp only []
 split
 all_goals first
  |exact leave _ _ _
  |exact eO _
  |exact wO main _ _ _ _ _ _
  |trivial
  |(split<;>first|exact eO _|trivial)
  |(cases h:exitTo _ _<;>first|exact eO _|exact leave _ _ _)
  |(cases h:gotoIn _ _<;>first|exact eO _|exact leave _ _ _)
  |(cases h:Extern.next _<;>first|trivial|exact wO main _ _ _ _ _ _)
  |(apply pP;split<;>first|trivial|exact pN (by assumption)|exact sY (by assumption)|exact se (wO main _ _ _ _ _ _) (pN (by assumption)))
  |(refine HB (eO _) ?_;split<;>first|trivial|exact cL (by assumption))
  |(refine HB ?_ (eO _);exact Sh main _ _ _ _ _)
  |skip
def PT(main listen:Bool)(g:Goroutine)(w:World):C1 w.drawn (stepG P main g w listen):=by
 unfold stepG
 simp only []
 split
 ·exact VP _ _ _
 ·exact Tl _ _ _ _ _ _
 ·exact NV _ _ _ _ _
def Fl{op:TimerOp}(h:timerOp m op= .ok (v,m')):m.world.drawn<=m'.world.drawn:=by
 have hr: ∀(m0:Machine) (k:Nat) (t:Timer) (when_ period:Nat),(retime m0 k t when_ period).2.world.drawn=m0.world.drawn:=fun m0 k t a b=>by
  unfold retime drain
  cases t.chan with
  |none=>rfl
  |some c=>simp only [];split<;>rfl
 have ho: ∀{var:Addr} {m0:Machine},timerOp.opened m var=some m0->m0.world.drawn=m.world.drawn:=fun{var m0} h=>by
  unfold timerOp.opened at h
  repeat' (split at h)
  all_goals (cases h;try rfl)
 have hn: ∀{var:Addr} {m0:Machine} {f:Nat->Timer->Value×Machine} {r:Value×Machine},timerOp.named m0 var f= .ok r-> ∃k t,r=f k t:=fun{var m0 f r} h=>by
  unfold timerOp.named at h
  split at h
  ·cases h;exact⟨_,_,rfl⟩
  ·cases h
 unfold timerOp at h
 split at h
 ·repeat' (split at h)
  all_goals first
   |(cases h;exact eO _)
   |(cases h;done)
 ·obtain⟨k,t,e⟩:=hn h
  rw [show m' =(retime m k t 0 t.period).2 from congrArg Prod.snd e,hr]
  exact eO _
 ·split at h
  ·rename_i m0 hm0
   obtain⟨k,t,e⟩:=hn h
   rw [show m' =(retime m0 k t _ _).2 from congrArg Prod.snd e,hr,ho hm0]
   exact eO _
  ·cases h
 ·simp only [Except.ok.injEq,FH]at h
  rw [<-h.2]
  exact eO _
def JB{fr:Frame}{m:String}{g:Goroutine}(h:endThrow fr m w= .go g w' es):w.drawn<=w'.drawn:=by
 have:=tk fr m w
 rw [h]at this
 exact this
def KD(m m' :Machine)(i:Nat)(b:Bool)(h:(runT P m i b).1= .next m'):m.world.drawn<=m'.world.drawn:=by
  simp only [runT]at h
  revert h
  generalize m.gs.swapAt! _ _=gg
  have hs:=PT (P:=P) (i==0) b gg.1 m.world
  revert hs
  generalize stepG P _ gg.1 m.world b=s
  intro hs h
  cases s<;>simp only []at h
  all_goals first
    |(simp at h;done)
    |exact lM hs (AA _ _ _ _ _ _ _ _ _ h)
    |exact lM hs (Ee _ _ _ _ h)
    |(simp only [zF]at h;subst h;exact hs)
    |(repeat' first
        |(simp at h;done)
        |(simp only [zF]at h;subst h;exact hs)
        |(simp only [zF]at h;subst h;exact lM hs (Fl (by assumption)))
        |(simp only [zF]at h;subst h;exact lM hs (JB (by assumption)))
        |split at h)
def IJ(m m' :Machine)(k:Nat)(h:serve P m k= .next m'):m.world.drawn<=m'.world.drawn:=by
 unfold serve at h
 simp only []at h
 repeat' first
  |(simp at h;done)
  |(simp only [zF]at h;subst h;exact eO _)
  |split at h
def JL(m m' :Machine)(ops:Array MemOp)(h:askOn P m= .machine (.next m') ops):m.world.drawn<=m'.world.drawn:=by
 unfold askOn at h
 simp only []at h
 repeat' first
  |(simp at h;done)
  |(simp only [Move.machine.injEq]at h;exact lM (cL (by assumption)) (IJ _ _ _ h.1))
  |(simp only [Move.machine.injEq,zF]at h;obtain⟨rfl,_⟩:=h;(try simp only [Machine.advanceTo]);exact cL (by assumption))
  |(simp only [Move.machine.injEq,zF]at h;obtain⟨rfl,_⟩:=h;(try simp only [Machine.advanceTo]);exact lM (cL (by assumption)) (cL (by assumption)))
  |split at h
def Gh{gs:Array Goroutine}{rest:Rest}{t:Nat}{x:α}(h:s.run P (Machine.advanceTo {world:=w,gs:=gs,rest:=rest} t).world= .ok x w'):w.drawn<=w'.drawn:=by
 have:=cL h
 simpa only [Machine.advanceTo] using this
def H4(m m' :Machine)(i:Nat)(h:askOn P m= .goroutine m' i):m.world.drawn<=m'.world.drawn:=by
  unfold askOn at h
  simp only []at h
  repeat' first
    |(simp at h;done)
    |(simp only [Move.goroutine.injEq]at h;rw [<-h.1];(try simp only [Machine.advanceTo]);first
        |exact cL (by assumption)
        |exact lM (cL (by assumption)) (cL (by assumption))
        |exact lM (cL (by assumption)) (lM (cL (by assumption)) (cL (by assumption)))
        |exact lM (cL (by assumption)) (lM (cL (by assumption)) (lM (cL (by assumption)) (cL (by assumption))))
        |exact lM (cL (by assumption)) (lM (cL (by assumption)) (Gh (by assumption)))
        |exact lM (cL (by assumption)) (lM (cL (by assumption)) (lM (Gh (by assumption)) (cL (by assumption)))))
    |split at h
def E0(m:Machine):(∃m₂:Machine,m.world.drawn<=m₂.world.drawn/\ask P m=askOn P m₂)\/(∃o w,ask P m= .machine (.ended o w) #[]):=by
 unfold ask
 by_cases hw:m.rest.watch=true
 ·rw [bD hw]
  cases hc:(choose (.extern "collector.look" 2)).run P m.world with
  |halt h w=>exact .inr ⟨_,_,rfl⟩
  |ok k world=>
   have e1:=cL hc
   rcases k with _|_|k
   ·exact .inl ⟨{m with world},e1,rfl⟩
   ·show(∃m₂:Machine,m.world.drawn<=m₂.world.drawn/\(match Go.look P m.gs m.rest world with| .next m=>askOn P m|e=>Move.machine e)=askOn P m₂)\/
     (∃o w,(match Go.look P m.gs m.rest world with| .next m=>askOn P m|e=>Move.machine e)= .machine (.ended o w) #[])
    cases hl:Go.look P m.gs m.rest world with
    |next m₂=>exact .inl ⟨m₂,lM e1 (Ee _ _ _ _ hl),rfl⟩
    |ended o w=>exact .inr ⟨o,w,rfl⟩
   ·exact .inl ⟨{m with world},e1,rfl⟩
 ·simp only [hw,jS,ii]
  exact .inl ⟨m,eO _,rfl⟩
def KW(m m' :Machine)(ops:Array MemOp)(h:move P m= .machine (.next m') ops):m.world.drawn<=m'.world.drawn:=by
 have ha: ∀m1:Machine,m1.world.drawn=m.world.drawn->ask P m1= .machine (.next m') ops->m.world.drawn<=m'.world.drawn:=fun m1 e h=>by
  rcases E0 (P:=P) m1 with⟨m₂,hs,he⟩|⟨o,w,he⟩
  ·rw [he]at h;rw [<-e];exact lM hs (JL m₂ m' ops h)
  ·rw [he]at h;simp at h
 unfold move at h
 repeat' first
  |(simp at h;done)
  |(refine ha _ ?_ h;rfl)
  |split at h
def I7(m m' :Machine)(i:Nat)(h:move P m= .goroutine m' i):m.world.drawn<=m'.world.drawn:=by
 have ha: ∀m1:Machine,m1.world.drawn=m.world.drawn->ask P m1= .goroutine m' i->m.world.drawn<=m'.world.drawn:=fun m1 e h=>by
  rcases E0 (P:=P) m1 with⟨m₂,hs,he⟩|⟨o,w,he⟩
  ·rw [he]at h;rw [<-e];exact lM hs (H4 m₂ m' i h)
  ·rw [he]at h;cases h
 unfold move at h
 repeat' first
  |(simp at h;done)
  |(refine ha _ ?_ h;rfl)
  |(simp only [Move.goroutine.injEq]at h;rw [<-h.1];exact eO _)
  |split at h
def Kr(h:step P m= .next m'):m.world.drawn<=m'.world.drawn:=by
 simp only [step,stepT]at h
 split at h
 ·rename_i m₁ i hm
  exact lM (I7 m m₁ i hm) (KD m₁ m' i _ h)
 ·rename_i s ops hm
  simp only []at h
  subst h
  exact KW m m' ops hm
def BU(h:Steps P m m'):m.world.drawn<=m'.world.drawn:=by
 obtain⟨n,hn⟩:=h
 induction n generalizing m with
 |zero=>simp only [runN,zF]at hn;rw [hn];exact eO _
 |succ n ih=>
  simp only [runN]at hn
  split at hn
  ·rename_i m1 A
   exact lM (Kr A) (ih hn)
  ·rename_i V
   exact absurd hn (V _)
def JK{args:Array Value}(h:Calls P f args w R)(ho: ∀w',¬R .outgrown w'):Calls P f args w fun e w' =>R e w' /\w.drawn<=w'.drawn:=fun cs=>by
 obtain⟨e,w',fr,hr,hc,D⟩:=h cs
 refine⟨e,w',fr,⟨hr,?_⟩,hc,D⟩
 cases e with
 |outgrown=>exact absurd hr (ho w')
 |returned v=>exact BU (show Steps P _ _ from hc)
 |panicked c=>exact BU (show Steps P _ _ from hc)
end

def fw(r:Option Nat):Fence:={fn:=fun _=>True,depth:=none,alive:=false,round:=r}
def u7{r:Option Nat}{n:Nat}{P:Program}{args:Array Value}:CallsIn (fw r) n P f args w R↔Calls P f args w R:=callsIn_wide
def Jt{r:Option Nat}{n:Nat}:(fw r).depth.isSome=true->1<=n:=fun h=>by cases h
structure En where
 P:Program
 N:Fr
 B:Nat->Prop
 w0:World
 S0:SH
 r:Option Nat
def En.base(E:En):Nat:=E.w0.heap.size

def UW(P:Program)(o:Oper)(a:Act)(tD:Act->World->Prop):Result Next->Prop
 | .ok (.value v) w' =>tD (a.put o.dst v) w'
 | .ok .skip w' =>tD (a.put o.dst undef) w'
 | .ok (.enter f args) w' =>Calls P f args w' fun e w'' => ∃v,e= .returned v/\tD (a.put o.dst v) w''
 | .ok (.round l f tmps assign body) w' =>RoundIn (fw none) 0 P l f tmps assign body w' fun e w'' => ∃v,e= .returned v/\tD (a.put o.dst v) w''
 |_=>False
def I2(P:Program)(o:Oper)(a:Act)(w:World)(tD:Act->World->Prop):Prop:=(∀c,o.op≠ .defer c)/\UW P o a tD ((execOp a.eval o).run P w)
def KE{r:Option Nat}{n:Nat}{P:Program}{l:Nat}{tmps:Array Value}{assign body:Code}(h:RoundIn (fw none) 0 P l f tmps assign body w R):RoundIn (fw r) n P l f tmps assign body w R:=
 ⟨trivial,fun c cs _=>h.2 c cs (fun _ hd=>by cases hd)⟩
variable{tD K' :Act->World->Prop}
def Qo{P:Program}(hK: ∀a w,tD a w->K' a w){r:Result Next}(h:UW P o a tD r):UW P o a K' r:=by
 cases r with
 |ok n w=>
  cases n<;>simp only [UW]at h ⊢
  case value=>exact hK _ _ h
  case skip=>exact hK _ _ h
  case enter f args=>exact h.mono fun e w' ⟨v,he,hk⟩=>⟨v,he,hK _ _ hk⟩
  case round l f tmps assign body=>exact h.mono fun e w' ⟨v,he,hk⟩=>⟨v,he,hK _ _ hk⟩
 |halt x w=>simp only [UW]at h
def m7{P:Program}(hK: ∀a w,tD a w->K' a w)(h:I2 P o a w tD):I2 P o a w K' :=⟨h.1,Qo hK h.2⟩
variable{tV:Exit->Act->World->Prop}{β:Type}{res:β->Ty}
def jZ{P:Program}{r:Option Nat}(hK: ∀a w,tD a w->K' a w)(h:I2 P o a w tD):o.wpIn (fw r) 0 P a w K' tV:=by
 obtain⟨hd,h⟩:=h
 refine⟨fun _ _=>trivial,?_⟩
 rw [Oper.semAt_eq _ _ _ hd]
 generalize (execOp a.eval o).run P w=res at h
 cases res with
 |ok n w=>
  cases n<;>simp only [UW]at h<;>simp only [Oper.uponIn]
  case value=>exact hK _ _ h
  case skip=>exact hK _ _ h
  case enter f args=>exact⟨Jt,u7.2 (h.mono fun e w' ⟨v,he,hk⟩=>by subst he;exact hK _ _ hk)⟩
  case round l f tmps assign body=>exact⟨Jt,(KE h).mono fun e w' ⟨v,he,hk⟩=>by subst he;exact hK _ _ hk⟩
 |halt x w=>simp only [UW]at h

def bP(E:En)(O:List OE)(G:lh)(o:Oper)(t:Ty):Prop:=
 ∀a w S,kp w S->cN E.base E.B w S O->cu E.N S a G->
  I2 E.P o a w (fun a' w' => ∃v S',a' =a.put o.dst v/\jl sR w S w' S' /\kp w' S' /\t.p S' v)
structure St(E:En)(O:List OE)(G:lh)(a:Act)(w:World)(S:SH):Prop where
 ext:jl E.B E.w0 E.S0 w S
 sat:kp w S
 own:cN E.base E.B w S O
 facts:cu E.N S a G
def RG(E:En)(ops:Array Oper)(tV:Exit->Act->World->Prop)(l:List Oper)(O:List OE)(G:lh):Prop:= ∀a w S,St E O G a w S->wpListIn (fw E.r) 0 E.P ops tV l a w
def CG(E:En)(tV:Exit->Act->World->Prop)(c:Code)(O:List OE)(G:lh):Prop:= ∀a w S,St E O G a w S->c.wpIn (fw E.r) 0 E.P tV a w
def AT(E:En)(tV:Exit->Act->World->Prop)(e:Exit)(O:List OE)(G:lh):Prop:= ∀a w S,St E O G a w S->tV e a w

variable{after:Array Edge}{fn:Func}{pos:String}{ts:List Ty}{y:Operand}
section
variable{E:En}{G' :lh}{l:List Oper}
def St.step(h:St E O G a w S)(k:jl sR w S w' S')(hs:kp w' S')(hd:Nat.blt d E.N.n=true)(hv:t.p S' v):
  St E O ((d,t)::G) (a.put (some d) v) w' S' :=
 ⟨h.ext.step0 k,hs,h.own.ext0 k,(h.facts.mono k.keep).put hd hv⟩
def St.sub(h:St E O G a w S)(k:N4 G' G):St E O G' a w S:=⟨h.ext,h.sat,h.own,h.facts.sub (FU k)⟩
def RG.of(hg:o.guard=none)(h: ∀a w S,St E O G a w S->I2 E.P o a w (fun a' w' =>wpListIn (fw E.r) 0 E.P ops tV l a' w')):RG E ops tV (o::l) O G:=fun a w S st=>
 wpListIn_plain hg fun _ hK=>jZ hK (h a w S st)

def GK{op:Op}{ty:TypeId}(h:bP E O G ⟨some d,op,ty,pos,after,none⟩ t)(hd:Nat.blt d E.N.n=true)(k:RG E ops tV l O ((d,t)::G)):
  RG E ops tV (⟨some d,op,ty,pos,after,none⟩::l) O G:= .of rfl fun a w S st=>
 m7 (fun a' w' ⟨_,_,ha,he,hs,hv⟩=>by subst ha;exact k _ _ _ (st.step he hs hd hv)) (h a w S st.sat st.own st.facts)
def bN(h:AT E tV .normal O G):RG E ops tV [] O G:=fun a w S st=>h a w S st
def bg{id:Nat}{l:List Oper}(h:RG E l.toArray tV l O G):CG E tV (.region id l.toArray false) O G:=fun a w S st=>wpIn_region_lit (h a w S st)
def aM{x y:Code}(h:CG E (Exit.then (y.wpIn (fw E.r) 0 E.P tV) tV) x O G):CG E tV (.seq x y) O G:=fun a w S st=>wpIn_seq (h a w S st)
def aJ{y:Code}(h:CG E tV y O G):AT E (Exit.then (y.wpIn (fw E.r) 0 E.P tV) tV) .normal O G:=h
def co(h:AT E tV .normal O G):CG E tV .skip O G:=fun a w S st=>wpIn_skip (h a w S st)
def gZ{id:Nat}(h:AT E tV (.exit id) O G):CG E tV (.exit id) O G:=fun a w S st=>wpIn_exit (h a w S st)
def zB(h:AT E tV .ret O G):CG E tV .ret O G:=fun a w S st=>wpIn_ret (h a w S st)
def dh{e:Exit}(h:AT E tV e O G')(k:N4 G' G):AT E tV e O G:=fun a w S st=>h a w S (st.sub k)
def C6{c:Operand}{x y:Code}(H:aE E.N G c (K rB b))(V:b=true->CG E tV x O G)(hy:b=false->CG E tV y O G):CG E tV (.cond c x y) O G:=fun a w S st=>by
 have hv:a.eval c= .bool b:=i6.1 (H S a st.facts)
 refine wpIn_cond hv ?_
 cases b with
 |true=>exact V rfl a w S st
 |false=>exact hy rfl a w S st
def av{id:Nat}(h:CG E (Exit.inBlock id tV) c O G):CG E tV (.block id c) O G:=fun a w S st=>wpIn_block (h a w S st)
def y9(r:Option Nat)(P:Program)(c:Code)(tV:Exit->Act->World->Prop)(a:Act)(w:World):Prop:=
 ∀(b:Frame) (k:List Item) (cs:List Frame),b.roundOf=r-> ∃e a' w',tV e a' w' /\ArrivesIn (Machine.fenced P (fw r)) P (lone (b.atR a (.code c:: .inLoop c::k)) cs w) b k cs e a' w'
def MR{r:Option Nat}{n:Nat}:(fw r).room n:=fun _ hd=>by cases hd
def G5{r:Option Nat}{P:Program}{tV:Exit->Act->World->Prop}(h:y9 r P c tV a w):(Code.loop c).wpIn (fw r) 0 P tV a w:=fun b k cs hro H hr=>
 let⟨e,a',w',hq,harr⟩:=h b k cs hro
 ⟨e,a',w',hq,.of_steps (.one (fenced_calm H hr rfl) stepR_loop) harr⟩
def Fx{r:Option Nat}{P:Program}{tV:Exit->Act->World->Prop}(h:c.wpIn (fw r) 0 P (Exit.then (y9 r P c tV) tV) a w):y9 r P c tV a w:=by
 intro b k cs hro
 obtain⟨e,a₁,w₁,hq,harr⟩:=h b (.inLoop c::k) cs hro trivial MR
 cases e with
 |normal=>
  obtain⟨e₂,a₂,w₂,hq₂,harr₂⟩:=hq b k cs hro
  exact⟨e₂,a₂,w₂,hq₂,.of_steps (StepsIn.trans harr (.one (fenced_calm (n:=0) (F:=fw r) trivial MR rfl) stepR_inLoop)) harr₂⟩
 |exit id=>exact⟨_,a₁,w₁,hq,.pass (x:= .inLoop c) rfl (fun _ _=> .inl (by simp)) harr⟩
 |goto l=>exact⟨_,a₁,w₁,hq,.pass (x:= .inLoop c) rfl (fun _ _=> .inl (by simp)) harr⟩
 |ret=>exact⟨_,a₁,w₁,hq,.pass (x:= .inLoop c) rfl (fun _ _=> .inl (by simp)) harr⟩
 |panic ch=>exact⟨_,a₁,w₁,hq,.pass (x:= .inLoop c) rfl (fun _ _=> .inl (by simp)) harr⟩
 |outgrown=>exact⟨_,a₁,w₁,hq,.pass (x:= .inLoop c) rfl (fun _ _=> .inl (by simp)) harr⟩
def LG(E:En)(tV:Exit->Act->World->Prop)(c:Code)(O:List OE)(G:lh):Prop:= ∀a w S,St E O G a w S->y9 E.r E.P c tV a w
def bY(h:LG E tV c O G):CG E tV (.loop c) O G:=fun a w S st=>G5 (h a w S st)
def gR(h:CG E (Exit.then (y9 E.r E.P c tV) tV) c O G):LG E tV c O G:=fun a w S st=>Fx (h a w S st)
def aR(h:LG E tV c O G')(k:N4 G' G):LG E tV c O G:=fun a w S st=>h a w S (st.sub k)
def bu(h:LG E tV c O G):AT E (Exit.then (y9 E.r E.P c tV) tV) .normal O G:=h
def aH{id:Nat}(h:AT E tV (.exit id) O G):AT E (Exit.then tD tV) (.exit id) O G:=h
def aw(h:AT E tV .ret O G):AT E (Exit.then tD tV) .ret O G:=h
def GR{id:Nat}(h:AT E tV .ret O G):AT E (Exit.inBlock id tV) .ret O G:=h
def bR{id:Nat}(h:AT E tV .normal O G):AT E (Exit.inBlock id tV) .normal O G:=h
def dK{id:Nat}(h:AT E tV .normal O G):AT E (Exit.inBlock id tV) (.exit id) O G:=fun a w S st=>by
 simp only [Exit.inBlock,gW];exact h a w S st
def cg{id id' :Nat}(hne:Nat.beq id' id=false)(h:AT E tV (.exit id') O G):AT E (Exit.inBlock id tV) (.exit id') O G:=fun a w S st=>by
 have:id' ≠id:=fun e=>by subst e;simp at hne
 simp only [Exit.inBlock,this,ii];exact h a w S st

def xV(S:SH):List Ty->List Value->Prop
 |[],[]=>True
 |t::ts,v::vs=>t.p S v/\xV S ts vs
 |_,_=>False
def xV.mono(h:pm S S'): ∀{ts:List Ty} {vs:List Value},xV S ts vs->xV S' ts vs
 |[],[],_=>trivial
 |t::_,_::_,⟨A,D⟩=>⟨t.mono h A,xV.mono h D⟩
def xV.length: ∀{ts:List Ty} {vs:List Value},xV S ts vs->vs.length=ts.length
 |[],[],_=>rfl
 |_::_,_::_,⟨_,D⟩=>by simp [xV.length D]
def dn(P:Program)(f:FuncId)(ts:List Ty)(t:Ty):Prop:=
 ∀w S vs,kp w S->xV S ts vs->Calls P f vs.toArray w fun e w' => ∃v S',e= .returned v/\jl sR w S w' S' /\kp w' S' /\t.p S' v
def Lt(E:En)(t:Ty):Ending->World->Prop:=fun e w' => ∃v S',e= .returned v/\jl E.B E.w0 E.S0 w' S' /\kp w' S' /\t.p S' v
def yv(k:Nat):List Ty->lh
 |[]=>[]
 |t::ts=>(k,t)::yv (k+1) ts
def Ed: ∀(ts:List Ty) (k j:Nat) (t:Ty),look (yv k ts) j=some t-> ∃i,j=k+i/\ts[i]? =some t
 |[],_,_,_,h=>by simp [yv,look]at h
 |u::ts,k,j,t,h=>by
  unfold yv look at h
  by_cases H:Nat.beq k j=true
  ·rw [H]at h
   exact⟨0,by rw [nU H];rfl,by simpa using h⟩
  ·rw [AP]at H
   rw [H]at h
   obtain⟨i,A,D⟩:=Ed ts (k+1) j t h
   exact⟨i+1,by omega,by simpa using D⟩
def xV.at_: ∀{ts:List Ty} {vs:List Value} (_:xV S ts vs) (i:Nat) (t:Ty),ts[i]? =some t-> ∃v,vs[i]? =some v/\t.p S v
 |_::_,v::_,⟨A,_⟩,0,t,h=>⟨v,rfl,by simp at h;rw [<-h];exact A⟩
 |_::ts,_::vs,⟨_,D⟩,i+1,t,h=>by simpa using xV.at_ D i t (by simpa using h)
def zj{vs:List Value}(h:xV S ts vs)(n:Nat)(hn:ts.length<=n):
  cu ⟨n,[]⟩ S {tmps:=vs.toArray++Array.replicate (n-vs.toArray.size) undef,defers:=[]} (yv 0 ts):=by
 have hl:=h.length
 refine⟨by simp;omega,rfl,fun j t hj=>?_⟩
 obtain⟨i,e,hi⟩:=Ed ts 0 j t hj
 have e' :j=i:=by omega
 subst e'
 obtain⟨v,hv,M⟩:=h.at_ j t hi
 have hlt:j<vs.length:=(qB.1 hv).1
 have:(vs.toArray++Array.replicate (n-vs.toArray.size) undef).getD j undef=v:=by
  rw [GW,Array.getElem?_append_left (by simpa using hlt)]
  simp [hv]
 rw [this];exact M
def H8{P:Program}(hf:P.funcs[f]? =some fn)(H:fn.body=some c)(hn:ts.length<=fn.ntmps)(h: ∀w0 S0,CG ⟨P,⟨fn.ntmps,[]⟩,sR,w0,S0,none⟩ (bodyPost P fn (Lt ⟨P,⟨fn.ntmps,[]⟩,sR,w0,S0,none⟩ t)) c [] (yv 0 ts)):dn P f ts t:=by
 intro w S vs hs hv
 exact u7.1 (callsIn_of_wp (F:=fw none) (n:=0) hf H trivial (h w S _ w S ⟨jl.refl _ _ _,hs,trivial,zj hv _ hn⟩))
def qI(P:Program)(fn:Func)(k:Nat)(h:fn.results= #[.tmp k])(tmps:Array Value)(w:World):(results fn tmps).run P w= .ok (tmps.getD k undef) w:=by
 simp [results,h]
def aT{P:Program}{N:Nat}{B:Nat->Prop}{w0:World}{S0:SH}(hr:fn.results= #[.tmp k])(hk:look G k=some t):
  AT ⟨P,⟨N,[]⟩,B,w0,S0,none⟩ (bodyPost P fn (Lt ⟨P,⟨N,[]⟩,B,w0,S0,none⟩ t)) .ret O G:=fun _ _ S st=>
 ⟨st.facts.defers,_,qI P fn k hr _ _,_,S,rfl,st.ext,st.sat,st.facts.at_ k t hk⟩
def tT(ts:List Ty):Ty where
 p:=fun S v=> ∃vs,v= .tuple vs.toArray/\xV S ts vs
 mono:=fun h k=>by obtain⟨vs,e,k⟩:=k;exact⟨vs,e,xV.mono h k⟩
def CB(P:Program)(fn:Func)(j k:Nat)(h:fn.results= #[.tmp j,.tmp k])(tmps:Array Value)(w:World):(results fn tmps).run P w= .ok (.tuple #[tmps.getD j undef,tmps.getD k undef]) w:=by
 simp [results,h]
def fj{P:Program}{N:Nat}{B:Nat->Prop}{w0:World}{S0:SH}{u:Ty}(hr:fn.results= #[.tmp j,.tmp k])(hj:look G j=some t)(hk:look G k=some u):
  AT ⟨P,⟨N,[]⟩,B,w0,S0,none⟩ (bodyPost P fn (Lt ⟨P,⟨N,[]⟩,B,w0,S0,none⟩ (tT [t,u]))) .ret O G:=fun _ _ S st=>
 ⟨st.facts.defers,_,CB P fn j k hr _ _,_,S,rfl,st.ext,st.sat,[_,_],rfl,st.facts.at_ j t hj,st.facts.at_ k u hk,trivial⟩
end

variable{dst:Option Tmp}{xt yt:TypeId}
section
variable{E:En}{ty:TypeId}
def bP.of_run(h: ∀a w S,kp w S->cN E.base E.B w S O->cu E.N S a G->
  ∃v w' S',(execOp a.eval o).run E.P w= .ok (.value v) w' /\jl sR w S w' S' /\kp w' S' /\t.p S' v)(hd: ∀c,o.op≠ .defer c:=by intro c h;cases h):bP E O G o t:=fun a w S hs ho hf=>by
 obtain⟨v,w',S',hr,he,hs',hv⟩:=h a w S hs ho hf
 refine⟨hd,?_⟩
 rw [hr]
 exact⟨v,S',rfl,he,hs',hv⟩
def bP.of_pure(h: ∀a w S,kp w S->cN E.base E.B w S O->cu E.N S a G-> ∃v,(execOp a.eval o).run E.P w= .ok (.value v) w/\t.p S v)(hd: ∀c,o.op≠ .defer c:=by intro c h;cases h):bP E O G o t:=
 .of_run (fun a w S hs ho hf=>let⟨v,hr,hv⟩:=h a w S hs ho hf;⟨v,w,S,hr,jl.refl _ _ _,hs,hv⟩) hd

def bU(V:aE E.N G x t):bP E O G ⟨dst,.move x,ty,pos,after,g⟩ t:=
 .of_pure fun a _ S _ _ hf=>⟨a.eval x,rfl,V S a hf⟩
def cy(V:aE E.N G x t):bP E O G ⟨dst,.assign x,ty,pos,after,g⟩ t:=
 .of_pure fun a _ S _ _ hf=>⟨a.eval x,rfl,V S a hf⟩
def CV{c:Operand}(hc:aE E.N G c (K rB b))(V:b=true->aE E.N G x t)(hy:b=false->aE E.N G y t):bP E O G ⟨dst,.pick c x y,ty,pos,after,g⟩ t:=
 .of_pure fun a _ S _ _ hf=>by
  have A:a.eval c= .bool b:=i6.1 (hc S a hf)
  refine⟨if b then a.eval x else a.eval y,by simp [execOp,A,asBool],?_⟩
  cases b with
  |true=>exact V rfl S a hf
  |false=>exact hy rfl S a hf

section
variable{k:IntKind}{m n:Int}
def Jz{P:Program}{op:BinOp}{xt:TypeId}{x y:Operand}{k k' :IntKind}{m n:Int}:(eqGuard op xt x y (.int k m) (.int k' n)).run P w= .ok () w:=by
 unfold eqGuard
 cases op<;>rfl
def uH{op:BinOp}(V:aE E.N G x (K (rI k) m))(hy:aE E.N G y (K (rI k) n))(hv: ∀P w,(binOp op xt (.int k m) (.int k n)).run P w= .ok v w)(M: ∀S,t.p S v):
  bP E O G ⟨dst,.binOp op xt x y yt,ty,pos,after,g⟩ t:=
 .of_pure fun a w S _ _ hf=>by
  have A:a.eval x= .int k m:=eF.1 (V S a hf)
  have D:a.eval y= .int k n:=eF.1 (hy S a hf)
  refine⟨v,?_,M S⟩
  simp [execOp,A,D,Jz,hv]
def tJ(V:aE E.N G x (K (rI k) m))(hy:aE E.N G y (K (rI k) n)):bP E O G ⟨dst,.binOp .add xt x y yt,ty,pos,after,g⟩ (K (rI k) (k.wrap (m+n))):=
 uH V hy (fun _ _=>by simp [binOp,Op.intArith]) (fun _=>eF.2 rfl)
def o9(V:aE E.N G x (K (rI k) m))(hy:aE E.N G y (K (rI k) n)):bP E O G ⟨dst,.binOp .sub xt x y yt,ty,pos,after,g⟩ (K (rI k) (k.wrap (m-n))):=
 uH V hy (fun _ _=>by simp [binOp,Op.intArith]) (fun _=>eF.2 rfl)
def Qs(V:aE E.N G x (K (rI k) m))(hy:aE E.N G y (K (rI k) n)):bP E O G ⟨dst,.binOp .mul xt x y yt,ty,pos,after,g⟩ (K (rI k) (k.wrap (m*n))):=
 uH V hy (fun _ _=>by simp [binOp,Op.intArith]) (fun _=>eF.2 rfl)
def jn(V:aE E.N G x (K (rI k) m))(hy:aE E.N G y (K (rI k) n)):bP E O G ⟨dst,.binOp .lss xt x y yt,ty,pos,after,g⟩ (K rB (decide (m<n))):=
 uH V hy (fun _ _=>by simp [binOp,Op.intCmp]) (fun _=>i6.2 rfl)
def n5(V:aE E.N G x (K (rI k) m))(hy:aE E.N G y (K (rI k) n)):bP E O G ⟨dst,.binOp .leq xt x y yt,ty,pos,after,g⟩ (K rB (decide (m<=n))):=
 uH V hy (fun _ _=>by simp [binOp,Op.intCmp]) (fun _=>i6.2 rfl)
def ki(V:aE E.N G x (K (rI k) m))(hy:aE E.N G y (K (rI k) n)):bP E O G ⟨dst,.binOp .gtr xt x y yt,ty,pos,after,g⟩ (K rB (decide (n<m))):=
 uH V hy (fun _ _=>by simp [binOp,Op.intCmp]) (fun _=>i6.2 rfl)
def kj(V:aE E.N G x (K (rI k) m))(hy:aE E.N G y (K (rI k) n)):bP E O G ⟨dst,.binOp .geq xt x y yt,ty,pos,after,g⟩ (K rB (decide (n<=m))):=
 uH V hy (fun _ _=>by simp [binOp,Op.intCmp]) (fun _=>i6.2 rfl)
def qe(V:aE E.N G x (K (rI k) m))(hy:aE E.N G y (K (rI k) n)):bP E O G ⟨dst,.binOp .eql xt x y yt,ty,pos,after,g⟩ (K rB (m==n)):=
 uH V hy (fun _ _=>by simp [binOp,Op.intCmp]) (fun _=>i6.2 rfl)
def lw(V:aE E.N G x (K (rI k) m))(hy:aE E.N G y (K (rI k) n)):bP E O G ⟨dst,.binOp .neq xt x y yt,ty,pos,after,g⟩ (K rB (m !=n)):=
 uH V hy (fun _ _=>by simp [binOp,Op.intCmp]) (fun _=>i6.2 rfl)
def nZ(V:aE E.N G x (K rB b)):bP E O G ⟨dst,.unOp .not xt x,ty,pos,after,g⟩ (K rB (!b)):=
 .of_pure fun a w S _ _ hf=>by
  have A:a.eval x= .bool b:=i6.1 (V S a hf)
  exact⟨.bool (!b),by simp [execOp,A,Op.unary],i6.2 rfl⟩
def Sk{st dt:TypeId}{k' :IntKind}{d:TypeDesc}(hs:E.P.underlying st=some d)(hd:E.P.underlying dt=some (.int k'))(V:aE E.N G x (K (rI k) m)):
  bP E O G ⟨dst,.convert st dt x,ty,pos,after,g⟩ (K (rI k') (k'.wrap m)):=
 .of_pure fun a w S _ _ hf=>by
  have A:a.eval x= .int k m:=eF.1 (V S a hf)
  refine⟨.int k' (k'.wrap m),?_,eF.2 rfl⟩
  simp only [execOp,A,convert,pr,g9 hs,g9 hd,ql]
  cases d<;>simp [Conv.intToInt]
end

def Be{P:Program}{t:TypeId}(M:P.underlying t=some .bool)(d:Nat)(b c:Bool)(w:World):(Op.equalIn (d+1) t (.bool b) (.bool c)).run P w= .ok (b==c) w:=by
 simp [Op.equalIn,g9 M]
def Ho{P:Program}{t:TypeId}{x y:Value}(H: ∀d,(Op.equalIn (d+1) t x y).run P w= .ok b w):(Op.equal t x y).run P w= .ok b w:=H 9999
section
def Sj{c:Bool}(M:E.P.underlying xt=some .bool)(V:aE E.N G x (K rB b))(hy:aE E.N G y (K rB c)):bP E O G ⟨dst,.binOp .neq xt x y yt,ty,pos,after,g⟩ (K rB (b !=c)):=
 .of_pure fun a w S _ _ hf=>by
  have A:a.eval x= .bool b:=i6.1 (V S a hf)
  have D:a.eval y= .bool c:=i6.1 (hy S a hf)
  exact⟨.bool (b !=c),by simp [execOp,A,D,eqGuard,binOp,Ho (fun d=>Be M d b c w)];cases b<;>cases c<;>rfl,i6.2 rfl⟩
def Qr{op:BinOp}{s u:bZ}(V:aE E.N G x (K rS s))(hy:aE E.N G y (K rS u))(hv: ∀P w,(Op.stringOp op ⟨s.toArray⟩ ⟨u.toArray⟩).run P w= .ok (.bool b) w)(hg: ∀P w,(eqGuard op xt x y (.string ⟨s.toArray⟩) (.string ⟨u.toArray⟩)).run P w= .ok () w)(H: ∀P w,(binOp op xt (.string ⟨s.toArray⟩) (.string ⟨u.toArray⟩)).run P w=(Op.stringOp op ⟨s.toArray⟩ ⟨u.toArray⟩).run P w):
  bP E O G ⟨dst,.binOp op xt x y yt,ty,pos,after,g⟩ (K rB b):=
 .of_pure fun a w S _ _ hf=>by
  have A:a.eval x= .string ⟨s.toArray⟩:=rO.1 (V S a hf)
  have D:a.eval y= .string ⟨u.toArray⟩:=rO.1 (hy S a hf)
  refine⟨.bool b,?_,i6.2 rfl⟩
  simp [execOp,A,D,hg,H,hv]
def qd{s u:bZ}(V:aE E.N G x (K rS s))(hy:aE E.N G y (K rS u)):bP E O G ⟨dst,.binOp .eql xt x y yt,ty,pos,after,g⟩ (K rB (s==u)):=
 Qr V hy (fun _ _=>by simp [Op.stringOp]) (fun _ _=>rfl) (fun _ _=>rfl)
def CW{s u:bZ}(V:aE E.N G x (K rS s))(hy:aE E.N G y (K rS u)):bP E O G ⟨dst,.binOp .neq xt x y yt,ty,pos,after,g⟩ (K rB (!(s==u))):=
 Qr V hy (fun _ _=>by simp [Op.stringOp]) (fun _ _=>rfl) (fun _ _=>rfl)
end
end

def QJ:TypeDesc->Bool
 | .struct _| .array _ _=>true
 |_=>false
structure TI(P:Program)(T:TypeId)(sz bytes:Nat)(agg:Bool)(z:List Value):Prop where
 info:(P.info? T).map (fun i=>(i.zero.map (·.cells.toList),i.size,i.bytes))=some (some z,sz,bytes)
 ag:(P.underlying T).map QJ=some agg
variable{T:TypeId}{z:List Value}
section
variable{P:Program}{sz:Nat}{agg:Bool}
def TI.get(h:TI P T sz bytes agg z): ∃i zv,P.info? T=some i/\i.size=sz/\i.bytes=bytes/\i.zero=some zv/\zv.cells=z.toArray:=by
 have:=h.info
 cases hi:P.info? T with
 |none=>rw [hi]at this;simp at this
 |some i=>
  rw [hi]at this
  simp only [De,C9,FH,L7]at this
  obtain⟨⟨zv,A,D⟩,h3,h4⟩:=this
  exact⟨i,zv,rfl,h3,h4,A,by rw [<-D]⟩
def TI.sizeOf(h:TI P T sz bytes agg z)(w:World):(Go.sizeOf T).run P w= .ok sz w:=by
 obtain⟨i,zv,A,D,_⟩:=h.get
 simp [Go.sizeOf,typeInfo,A,D]
def TI.isAgg(h:TI P T sz bytes agg z)(w:World):(Go.isAgg T).run P w= .ok agg w:=by
 have:=h.ag
 cases hi:P.underlying T with
 |none=>rw [hi]at this;simp at this
 |some d=>
  rw [hi]at this
  simp only [De,C9]at this
  simp only [Go.isAgg,pr,g9 hi,ql]
  rw [<-this]
  cases d<;>simp [QJ]
def TI.zero(h:TI P T sz bytes agg z)(w:World): ∃zv,(zeroValue T).run P w= .ok zv w/\zv.cells=z.toArray:=by
 obtain⟨i,zv,A,_,_,h4,h5⟩:=h.get
 exact⟨zv,by simp [zeroValue,typeInfo,A,h4],h5⟩
end

def gK(b off i:Nat):(⟨b,off,none⟩:Addr).add i=⟨b,off+i,none⟩:=by
 unfold Addr.add
 split
 ·simp_all
 ·rfl
def xx{b:Nat}{c:Array Value}(h:w.heap[b]? =some (.cells c T fr))(i:Nat):w.cell? ⟨b,i,none⟩=c[i]? :=by
 simp [World.cell?,h]
def Bc{P:Program}{b n:Nat}{c:Array Value}(h:w.heap[b]? =some (.cells c T fr))(hcs:(c.toList.drop off).take n=cs)(hl:cs.length=n):
  (loadCells ⟨b,off,none⟩ n).run P w= .ok cs.toArray w:=by
 rw [<-hl]
 refine run_loadCells_list w ⟨b,off,none⟩ cs fun j v hv=>?_
 rw [gK,xx h]
 have hj:j<cs.length:=(qB.1 hv).1
 rw [<-hcs,AR (by omega),vD]at hv
 simpa using hv
def iA{P:Program}{b:Nat}{c:Array Value}{U:TypeId}{sz:Nat}{agg:Bool}(ti:TI P U sz bytes agg z)(h:w.heap[b]? =some (.cells c T fr)){r:Rp α}(hsz:r.sz=sz)(hag:r.agg=agg){x:α}(V:r.rc S ((c.toList.drop off).take r.sz) x):
  (loadVar U ⟨b,off,none⟩).run P w= .ok (r.val ((c.toList.drop off).take r.sz)) w:=by
 have hl:=r.len V
 subst hsz
 subst hag
 simp only [loadVar,pr,ti.isAgg,ql]
 cases ha:r.agg with
 |true=>simp [ti.sizeOf,Bc h rfl hl,Rp.val,ha]
 |false=>
  have A:=r.sc ha
  have hcell:w.cell? ⟨b,off,none⟩=some (((c.toList.drop off).take r.sz).headD undef):=by
   rw [xx h]
   rw [A]at hl ⊢
   cases hd:c.toList.drop off with
   |nil=>rw [hd]at hl;simp at hl
   |cons v rest=>
    have:(c.toList.drop off)[0]? =some v:=by rw [hd];rfl
    rw [vD]at this
    simpa using this
  simp [hcell,Rp.val,ha]

variable{ats:Array TypeId}
section
variable{E:En}{ty:TypeId}
def nO{r:Rp α}{x:α}{U:TypeId}{p:Operand}{sz:Nat}{agg:Bool}(ti:TI E.P U sz bytes agg z)(hsz:r.sz=sz)(hag:r.agg=agg)(hp:aE E.N G p (bn r x)):
  bP E O G ⟨dst,.load U p,ty,pos,after,g⟩ (K r x):=
 .of_pure fun a w S hs _ hf=>by
  obtain⟨b,off,c,T,fr,A,D,h3⟩:=hp S a hf
  obtain⟨c',h4,h5⟩:=hs.part D (r.len h3)
  rw [<-h5]at h3
  refine⟨r.val ((c'.toList.drop off).take r.sz),?_,_,rfl,h3⟩
  simp [execOp,A,Instr.loadAt,Instr.sureAddr,iA ti h4 hsz hag h3]

def Nw(s:bZ):(ByteArray.mk s.toArray).size=s.length:=by simp [ByteArray.size]
def mE{r:Rp α}{t:TypeId}(M:E.P.underlying t=some (.slice e))(V:aE E.N G x (K (ek r) xs)):
  bP E O G ⟨dst,.call ⟨.builtin .len,#[x],#[t]⟩,ty,pos,after,g⟩ (K (rI .i64) (xs.length:Int)):=
 .of_pure fun a w S _ _ hf=>by
  obtain⟨ad,cap,A,_⟩:=ln.1 (V S a hf)
  refine⟨.int .i64 xs.length,?_,eF.2 rfl⟩
  simp [execOp,resolve,invoke,builtin,Builtin.len_,g9 M,A,goInt]
def xi{s:bZ}{t:TypeId}(M:E.P.underlying t=some .string)(V:aE E.N G x (K rS s)):
  bP E O G ⟨dst,.call ⟨.builtin .len,#[x],#[t]⟩,ty,pos,after,g⟩ (K (rI .i64) (s.length:Int)):=
 .of_pure fun a w S _ _ hf=>by
  have A:a.eval x= .string ⟨s.toArray⟩:=rO.1 (V S a hf)
  refine⟨.int .i64 s.length,?_,eF.2 rfl⟩
  simp [execOp,resolve,invoke,builtin,Builtin.len_,g9 M,A,goInt,Nw]

def fg{α:Type}(xs:List α)(i:Int):Option α:=if 0<=i then xs[i.toNat]? else none
def iu(xs:List α)(i:Nat):fg xs (i:Int)=xs[i]? :=by simp [fg]
def N6{r:Rp α}{a:Option Addr}(h:IA r S a xs){x:α}(V:xs[i]? =some x):
  ∃b off c T fr,a=some ⟨b,off,none⟩/\S b=some (.cells c T fr)/\r.rc S ((c.toList.drop (off+i*r.sz)).take r.sz) x:=by
 rcases h with rfl|⟨b,off,c,T,fr,e1,e2,e3⟩
 ·simp at V
 ·refine⟨b,off,c,T,fr,e1,e2,?_⟩
  have h:=z7 e3 V
  have hi:i<xs.length:=(qB.1 V).1
  rw [zJ,vg,uo]at h
  have:min r.sz (xs.length*r.sz-i*r.sz)=r.sz:=by
   rw [<-Nat.sub_mul]
   have:1*r.sz<=(xs.length-i)*r.sz:=yG _ (by omega)
   omega
  rw [this]at h
  exact h
def iq{r:Rp α}{y:α}{ix:Operand}{t:TypeId}{k:IntKind}{i:Int}{sz:Nat}{agg:Bool}(M:E.P.underlying t=some (.slice e))(ti:TI E.P e sz bytes agg z)(hsz:r.sz=sz)(V:aE E.N G x (K (ek r) xs))(hi:aE E.N G ix (K (rI k) i))(hy:fg xs i=some y):
  bP E O G ⟨dst,.indexAddr t x ix,ty,pos,after,g⟩ (bn r y):=
 .of_pure fun a w S _ _ hf=>by
  obtain⟨ad,cap,A,_,_,D⟩:=ln.1 (V S a hf)
  have h3:a.eval ix= .int k i:=eF.1 (hi S a hf)
  have h0:0<=i:=by unfold fg at hy;split at hy;assumption;cases hy
  have hy' :xs[i.toNat]? =some y:=by unfold fg at hy;rw [bD h0]at hy;exact hy
  have hlt:i.toNat<xs.length:=(qB.1 hy').1
  obtain⟨b,off,c,T,fr,e1,e2,e3⟩:=N6 D hy'
  subst e1
  refine⟨.pointer (some ⟨b,off+i.toNat*r.sz,none⟩),?_,b,_,c,T,fr,rfl,e2,e3⟩
  have hc:0<=i/\i<(xs.length:Int):=⟨h0,by omega⟩
  simp [execOp,A,h3,Instr.indexAt,asIntOf,g9 M,hc,ti.sizeOf,gK,hsz]

def iZ{α β:Type}(r:Rp α)(off:Nat)(q:Rp β)(get:α->β):Prop:= ∀S cs x,r.rc S cs x->q.rc S ((cs.drop off).take q.sz) (get x)
def a8(P:Program)(T:TypeId)(i:Nat):Option (Nat×Nat):=
 match P.underlying T with
 |some (.struct fs)=>(fs[i]?).bind fun f=>(P.info? f.type).map fun q=>(f.offset,q.size)
 |_=>none
def Bd{P:Program}{sz:Nat}(h:a8 P T i=some (off,sz)): ∃fs f,P.underlying T=some (.struct fs)/\fs[i]? =some f/\f.offset=off/\ ∀w,(sizeOf f.type).run P w= .ok sz w:=by
 unfold a8 at h
 split at h
 ·rename_i fs hu
  cases hf:fs[i]? with
  |none=>rw [hf]at h;simp at h
  |some f=>
   rw [hf]at h
   cases hq:P.info? f.type with
   |none=>simp [hq]at h
   |some q=>
    simp [hq]at h
    exact⟨fs,f,hu,hf,h.1,fun w=>by simp [sizeOf,typeInfo,hq,h.2]⟩
 ·cases h
def lx{r:Rp α}{q:Rp β}{get:α->β}{x:α}{sz:Nat}{p:Operand}(hf:a8 E.P T i=some (off,sz))(h0:Nat.beq sz 0=false)(hq:iZ r off q get)(hoff:Nat.ble (off+q.sz) r.sz=true)(hp:aE E.N G p (bn r x)):bP E O G ⟨dst,.fieldAddr T p i,ty,pos,after,g⟩ (bn q (get x)):=
 .of_pure fun a w S _ _ hF=>by
  obtain⟨b,o,c,U,fr,A,D,h3⟩:=hp S a hF
  obtain⟨fs,f,e1,e2,e3,e4⟩:=Bd hf
  have h0' :sz≠0:=fun e=>by subst e;simp at h0
  have hoff' :off+q.sz<=r.sz:=qE hoff
  refine⟨.pointer (some ⟨b,o+off,none⟩),?_,b,_,c,U,fr,rfl,D,?_⟩
  ·simp [execOp,A,Instr.fieldAt,g9 e1,e2,Instr.sureAddr,fieldPlace,e4,h0',e3,gK]
  ·have:=hq S _ x h3
   rw [zJ,vg,uo,zE (by omega)]at this
   exact this
def aj(P:Program)(f:FuncId):Bool:=
 match P.funcs[f]? with
 |some fn=> !(fn.name== "runtime.NumGoroutine")&&fn.body.isSome
 |none=>false
def il{P:Program}(h:aj P f=true)(args:Array Value)(w:World):(callFunc f args).run P w= .ok (.enter f args) w:=by
 unfold aj at h
 cases hf:P.funcs[f]? with
 |none=>rw [hf]at h;cases h
 |some fn=>
  rw [hf]at h
  simp only [gU,vO]at h
  have A:fn.name≠ "runtime.NumGoroutine" :=by simpa using h.1
  have D:fn.body≠none:=fun e=>by rw [e]at h;simp at h
  simp [callFunc,hf,A,D]
def iK(N:Fr)(G:lh):List Operand->List Ty->Prop
 |[],[]=>True
 |x::xs,t::ts=>aE N G x t/\iK N G xs ts
 |_,_=>False
def iK.tys{N:Fr}(hF:cu N S a G): ∀{xs:List Operand} {ts:List Ty},iK N G xs ts->xV S ts (xs.map a.eval)
 |[],[],_=>trivial
 |_::_,_::_,⟨A,D⟩=>⟨A S a hF,iK.tys hF D⟩
def bL{xs:List Operand}(hc:aj E.P f=true)(hs:dn E.P f ts t)(V:iK E.N G xs ts):
  bP E O G ⟨dst,.call ⟨.value (.func f),xs.toArray,ats⟩,ty,pos,after,g⟩ t:=fun a w S hS _ hF=>by
 have hr:(execOp a.eval ⟨dst,.call ⟨.value (.func f),xs.toArray,ats⟩,ty,pos,after,g⟩).run E.P w= .ok (.enter f (xs.map a.eval).toArray) w:=by
  simp [execOp,resolve,Act.eval,Deferred.ofValue,invoke,il hc]
 refine⟨fun c h=>(by cases h),?_⟩
 rw [hr]
 exact(hs w S _ hS (V.tys hF)).mono fun e w' ⟨v,S',he,A,D,h3⟩=>⟨v,he,v,S',rfl,A,D,h3⟩
end

def lW{o:Obj}(h:k<w.heap.size):(w.alloc o).heap[k]? =w.heap[k]? :=RowKit.Below.heap_alloc w o k h
def SH.set(S:SH)(b:Nat)(o:Obj):SH:=fun k=>if k=b then some o else S k
def mS(S:SH)(b:Nat)(o:Obj):S.set b o b=some o:=bD rfl
def pY(S:SH){b:Nat}(o:Obj)(h:k≠b):S.set b o k=S k:=bv h
def xB{b:Nat}{o:Obj}(h: ∀q,S b=some q->Fh q o):pm S (S.set b o):=fun k q hq=>by
 by_cases hk:k=b
 ·subst hk;exact⟨o,mS _ _ _,h q hq⟩
 ·exact⟨q,by rw [pY _ _ hk];exact hq,ua q⟩
def kp.set(h:kp w S){b:Nat}{o:Obj}(A:w.heap[b]? =some o')(D:Fh o o')(h3: ∀q,S b=some q->Fh q o):kp w (S.set b o):=by
 refine⟨fun k q hq=>?_,fun p hp=>?_,fun w' hw' =>h.tb w' fun k q hq=>?_⟩
 ·by_cases hk:k=b
  ·subst hk
   rw [mS]at hq
   cases hq
   exact⟨o',A,D⟩
  ·rw [pY _ _ hk]at hq;exact h k q hq
 ·obtain⟨c,T,fr,g1,g2⟩:=h.gl p hp
  by_cases hk:p.1=b
  ·subst hk
   obtain⟨d,hd⟩:=h3 _ g1
   refine⟨_,T,fr,by rw [mS,hd],?_⟩
   rw [List.toList_toArray,vF ?_]
   ·exact g2
   ·have:=congrArg List.length g2
    rw [yE]at this
    omega
  ·exact⟨c,T,fr,by rw [pY _ _ hk];exact g1,g2⟩
 ·by_cases hk:k=b
  ·subst hk
   obtain⟨o1,g1,g2⟩:=hw' k o (mS _ _ _)
   exact⟨o1,g1,Gb (h3 q hq) g2⟩
  ·exact hw' k q (by rw [pY _ _ hk];exact hq)
def jw(o:Obj)(hs:kp w S):jl sR w S (w.alloc o) S/\kp (w.alloc o) S/\S w.heap.size=none:=by
 refine⟨⟨rfl,rfl,rfl,eO _,by simp,fun k hk _=>lW hk,SH.le_refl _,fun _ _ _=>rfl⟩,hs.same fun b q H=>lW (hs.lt H),?_⟩
 cases h:S w.heap.size with
 |none=>rfl
 |some q=>have:=hs.lt h;omega
def tv(o:Obj)(hs:kp w S):jl sR w S (w.alloc o) (S.set w.heap.size o)/\kp (w.alloc o) (S.set w.heap.size o):=by
 obtain⟨A,D,h3⟩:=jw o hs
 refine⟨⟨rfl,rfl,rfl,eO _,by simp,fun k hk _=>lW hk,xB fun q hq=>(by rw [h3]at hq;cases hq),fun k hk _=>pY _ _ (by omega)⟩,D.set (xW w o) (ua o) fun q hq=>by rw [h3]at hq;cases hq⟩
def AM(hs:kp w S):jl sR w S w.drew S/\kp w.drew S:=⟨⟨rfl,rfl,rfl,Nat.le_succ _,eO _,fun _ _ _=>rfl,SH.le_refl _,fun _ _ _=>rfl⟩,hs.same fun _ _ _=>rfl⟩

def Y(l:Option Nat)(cap n:Nat):Value:=
 match l with
 |none=> .slice none 0 0
 |some b=> .slice (some ⟨b,0,none⟩) n cap
def yA(w:World)(T:TypeId)(sz:Nat)(l:Option Nat)(cap n:Nat)(cells:List Value):Prop:=
 match l with
 |none=>n=0/\cells=[]
 |some b=> ∃cur,w.heap[b]? =some (.cells cur T (0,0))/\n<=cap/\cap<=maxLen/\cur.size=cap*sz/\cur.toList.take (n*sz)=cells
def xU{α:Type}(m:Bool)(r:Rp α)(T:TypeId)(l:Option Nat)(cap:Nat)(xs:List α)(w:World)(S:SH):Prop:=
 ∃cells,yA w T r.sz l cap xs.length cells/\qA r S cells xs/\ ∀b,l=some b->S b=if m then some (.cells cells.toArray T (0,0))else none
def yA.lt{sz b n:Nat}(h:yA w T sz (some b) cap n cells):b<w.heap.size:=by
 obtain⟨cur,A,_⟩:=h
 exact(yI.1 A).1
def yA.ext{sz n:Nat}(h:yA w T sz l cap n cells)(k: ∀b,l=some b->w'.heap[b]? =w.heap[b]?):yA w' T sz l cap n cells:=by
 cases l with
 |none=>exact h
 |some b=>
  obtain⟨cur,A,D⟩:=h
  exact⟨cur,by rw [k b rfl];exact A,D⟩
def jR{α:Type}(m:Bool)(r:Rp α)(T:TypeId)(l:Option Nat)(cap:Nat)(xs:List α):OE where
 fp:=fun k=>l=some k
 p:=xU m r T l cap xs
 here:=by
  intro w S h k hk
  subst hk
  obtain⟨cells,A,_⟩:=h
  exact A.lt
 kept:=by
  intro C w w' S S' h k hC
  obtain⟨cells,A,D,h3⟩:=h
  refine⟨cells,A.ext fun b H=>?_,qp k.keep D,fun b H=>?_⟩
  ·subst H;exact k.heap b A.lt (hC b rfl)
  ·subst H;rw [k.old b A.lt (hC b rfl)];exact h3 b rfl
abbrev d7{α:Type}(r:Rp α)(T:TypeId)(l:Option Nat)(cap:Nat)(xs:List α):OE:=jR false r T l cap xs
abbrev Z{α:Type}(r:Rp α)(T:TypeId)(l:Option Nat)(cap:Nat)(xs:List α):OE:=jR true r T l cap xs
def lm{α:Type}(xs ys:List α):Option (List α):=if xs.length+ys.length<=68719476736 then some (xs++ys)else none
variable{zs:List α}
def Rw(h:lm xs ys=some zs):zs=xs++ys/\xs.length+ys.length<=68719476736:=by
 unfold lm at h
 split at h
 ·exact⟨by simpa using h.symm,by assumption⟩
 ·cases h
variable{news:List Value}
def xR{P:Program}{t tx ty:TypeId}{i:TypeInfo}(M:P.underlying t=some (.slice e))(hi:P.info? e=some i){g sLen sCap:Nat}{cur:Array Value}(hg:w.heap[g]? =some (.cells cur e (0,0))){x:Value}{n:Nat}(hs:Src P i.size tx x n news w)(hroom:sLen+n<=sCap)(hfit:sLen*i.size+news.length<=cur.size):
  (Builtin.append_ #[t,tx] ty #[.slice (some ⟨g,0,none⟩) sLen sCap,x]).run P w=
   .ok (.slice (some ⟨g,0,none⟩) (sLen+n) sCap) (w.setRow g (cur.toList.take (sLen*i.size)++news++cur.toList.drop (sLen*i.size+news.length)).toArray):=by
 have hst:=run_storeCells_at P g (sLen*i.size) e news 0 cur w hg (by simpa using hfit) hs.one
 simp only [Dc]at hst
 rcases hs.kind with⟨e',hk⟩|hk<;>simp [Builtin.append_,g9 M,g9 hk,sizeOf,typeInfo,hi,hs.len,hroom,hs.cells,Addr.add_lit,hst]
structure Uo(l:Option Nat)(w w' :World):Prop where
 os:w'.os=w.os
 tape:w'.tape=w.tape
 output:w'.output=w.output
 drawn:w.drawn<=w'.drawn
 size:w.heap.size<=w'.heap.size
 heap: ∀k,k<w.heap.size->l≠some k->w'.heap[k]? =w.heap[k]?
variable{t' :TypeId}
def DI{P:Program}{t ty:TypeId}{sz:Nat}{agg:Bool}{n m:Nat}{x:Value}(ti:TI P T sz bytes agg z)(hz:Nat.beq z.length sz=true)(h0:Nat.blt 0 sz=true)(h128:Nat.ble bytes 2048=true)(M:P.underlying t=some (.slice T))(h:yA w T sz l cap n cells)(hs:Src P sz t' x m news w)(hlen:n+m<=68719476736):
  ∃l' cap' w',(Builtin.append_ #[t,t'] ty #[Y l cap n,x]).run P w= .ok (Y l' cap' (n+m)) w' /\yA w' T sz l' cap' (n+m) (cells++news)/\Uo l w w' /\(∀b,l' =some b->l=some b\/w.heap.size<=b)/\(∀b,l=some b->l' ≠some b->w'.heap[b]? =w.heap[b]?):=by
 obtain⟨i,zv,hi,A,D,h3,h4⟩:=ti.get
 have h128' :=qE h128
 have h0' :0<sz:=by simpa [vL] using h0
 have hz2:z.length=sz:=nU hz
 subst A
 have hnl:=hs.newsLen
 have hbytes:(n+m)*i.bytes<=140737488355328:=lM (Nat.mul_le_mul hlen (by omega:i.bytes<=2048)) (by omega)
 by_cases hm:m=0
 ·subst hm
  have hn0:news=[]:=vE (by simpa using hnl)
  subst hn0
  refine⟨l,cap,w,?_,by simpa using h,⟨rfl,rfl,rfl,eO _,eO _,fun _ _ _=>rfl⟩,fun b H=> .inl H,fun b _ _=>rfl⟩
  cases l with
  |none=>
   obtain⟨rfl,_⟩:=h
   exact run_append_nothing w t t' ty T i M hi none 0 0 (eO _) _ hs
  |some b=>
   obtain⟨cur,_,hle,_⟩:=h
   exact run_append_nothing w t t' ty T i M hi (some ⟨b,0,none⟩) n cap hle _ hs
 have U8: ∀old,old<n+m->Builtin.nextslicecap (n+m) old*i.bytes<=281474976710656:=fun old ho=>growslice_fits ho hbytes
 -- a new row
 have fresh: ∀(base:Option Addr) (olds:List Value),Y l cap n= .slice base n cap->olds=cells->cap<n+m->(Builtin.firstCells i.size n (.slice base n cap)).run P w.drew= .ok olds.toArray w.drew->cells.length=n*i.size->
   ∃l' cap' w',(Builtin.append_ #[t,t'] ty #[Y l cap n,x]).run P w= .ok (Y l' cap' (n+m)) w' /\yA w' T i.size l' cap' (n+m) (cells++news)/\Uo l w w' /\(∀b,l' =some b->l=some b\/w.heap.size<=b)/\(∀b,l=some b->l' ≠some b->w'.heap[b]? =w.heap[b]?):=by
  intro base olds hv he hg hf hcl
  subst he
  have hr:=run_append_grow_src (P:=P) w t t' ty T i zv M hi h3 base n cap olds hf x m news hs hg (by omega) (U8 cap hg)
  have hge:=grownCap_ge w (n+m) cap T
  rw [<-hv]at hr
  refine⟨some w.heap.size,grownCap w (n+m) cap T,_,hr,⟨_,xW w.drew _,hge,grownCap_le_maxLen _ _ _ _ (by simp only [maxLen];omega),?_,?_⟩,⟨rfl,rfl,rfl,Nat.le_succ _,by simp,fun k hk _=>?_⟩,fun b H=> .inr (BL (oD H)),fun b H _=>?_⟩
  ·have:(Builtin.zeroCells zv.cells (grownCap w (n+m) cap T-(n+m))).size=(grownCap w (n+m) cap T-(n+m))*i.size:=by
    rw [size_zeroCells,h4];simp [hz2]
   simp only [Array.size_append,Dg,mV,hcl,hnl,this]
   rw [<-xI,<-xI]
   congr 1;omega
  ·have hl2:(olds++news).length=(n+m)*i.size:=by rw [mV,hcl,hnl,xI]
   rw [Array.toList_append,vF (by simp only [List.toList_toArray];omega)]
   simp only [List.toList_toArray]
   exact nv (by omega)
  ·exact lW (w:=w.drew) hk
  ·cases l with
   |none=>cases H
   |some b0=>
    have hb' :b0=b:=oD H
    subst hb'
    exact lW (w:=w.drew) (yA.lt h)
 cases l with
 |none=>
  obtain⟨rfl,rfl⟩:=h
  have:=run_append_grow_src (P:=P) w t t' ty T i zv M hi h3 none 0 0 [] (run_firstCells_none w.drew i.size 0 0 0) x m news hs (by omega) (by omega) (U8 0 (by omega))
  have hge:=grownCap_ge w (0+m) 0 T
  refine⟨some w.heap.size,grownCap w (0+m) 0 T,_,this,⟨_,xW w.drew _,hge,grownCap_le_maxLen _ _ _ _ (by simp only [maxLen];omega),?_,?_⟩,⟨rfl,rfl,rfl,Nat.le_succ _,by simp,fun k hk _=>?_⟩,fun b H=> .inr (BL (oD H)),fun b H=>(by cases H)⟩
  ·have:(Builtin.zeroCells zv.cells (grownCap w (0+m) 0 T-(0+m))).size=(grownCap w (0+m) 0 T-(0+m))*i.size:=by
    rw [size_zeroCells,h4];simp [hz2]
   simp only [Array.size_append,Dg,nu,hnl,this]
   rw [<-xI]
   congr 1;omega
  ·rw [Array.toList_append,vF (by simp [hnl])]
   simp only [nu,pz]
   exact nv (by omega)
  ·exact lW (w:=w.drew) hk
 |some b=>
  obtain⟨cur,H,hle,hmax,hcs,hct⟩:=h
  have hcl:cells.length=n*i.size:=by
   rw [<-hct,yE,Fj,hcs]
   exact zE (yG _ hle)
  by_cases hroom:n+m<=cap
  ·have hfit:n*i.size+news.length<=cur.size:=by rw [hnl,hcs,<-xI];exact yG _ hroom
   have hr:=xR (t:=t) (tx:=t') (ty:=ty) M hi H hs hroom hfit
   refine⟨some b,cap,_,hr,⟨_,setRow_heap w b cur _ T _ H,hroom,hmax,?_,?_⟩,⟨rfl,rfl,rfl,eO _,by simp [World.setRow],fun k hk hkb=>setRow_other w b k _ (fun e=>hkb (by rw [e]))⟩,fun b' hb' => .inl hb',fun b' hb' hne=>absurd hb' hne⟩
   ·simp only [Dg,mV,yE,zK,Fj]
    omega
   ·rw [hct,xI,<-hnl,<-hcl,show cells.length+news.length=(cells++news).length from by simp]
    exact List.take_left
  ·refine fresh (some ⟨b,0,none⟩) cells rfl rfl (by omega) (run_firstCells_some w.drew i.size n ⟨b,0,none⟩ n cap cells hcl fun j v hv=>?_) hcl
   have hj:j<cells.length:=(qB.1 hv).1
   have hcell:w.cell? ⟨b,j,none⟩=cur[j]? :=xx H j
   rw [gK]
   show w.cell? ⟨b,0+j,none⟩=_
   rw [pz,hcell]
   rw [<-hct,AR (by omega)]at hv
   simpa using hv
def vY{P:Program}{r:Rp α}{e' :TypeId}(M:P.underlying t' =some (.slice e'))(hs:kp w S)(hv:(K (ek r) ys).p S v): ∃news,Src P r.sz t' v ys.length news w/\qA r S news ys:=by
 obtain⟨ad,c2,rfl,hcap,hmax,hsl⟩:=ln.1 hv
 rcases hsl with rfl|⟨b,off,c,U,fr,e1,e2,e3⟩
 ·refine⟨[],?_,rfl⟩
  cases ad with
  |none=>exact .ofNil w M c2
  |some a=>exact .ofSlice w M a 0 c2 [] (by simp) (fun j u hu=>by simp at hu) (fun u hu=>by cases hu)
 ·subst e1
  obtain⟨c',h4,h5⟩:=hs.part e2 (kC e3)
  refine⟨_,.ofSlice w M ⟨b,off,none⟩ ys.length c2 _ (kC e3) (fun j u hu=>?_) (z6 e3),e3⟩
  rw [gK,xx h4]
  rw [<-h5]at hu
  have hj:j<ys.length*r.sz:=by
   have:=(qB.1 hu).1
   simp at this;omega
  rw [AR hj,vD]at hu
  simpa using hu
variable{mm:Bool}
def wg{P:Program}{r:Rp α}{t ty:TypeId}{sz:Nat}{agg:Bool}{base:Nat}{B:Nat->Prop}(ti:TI P T sz bytes agg z)(hsz:r.sz=sz)(hz:Nat.beq z.length sz=true)(h0:Nat.blt 0 sz=true)(h128:Nat.ble bytes 2048=true)(M:P.underlying t=some (.slice T))(hs:kp w S)(h:(jR mm r T l cap xs).holds base B w S)(H:base<=w.heap.size)(hsrc:Src P r.sz t' v ys.length news w)(hrc:qA r S news ys)(hz' :lm xs ys=some zs):
  ∃l' cap' w' S',(Builtin.append_ #[t,t'] ty #[Y l cap xs.length,v]).run P w= .ok (Y l' cap' zs.length) w' /\jl (fun k=>l=some k) w S w' S' /\kp w' S' /\(jR mm r T l' cap' zs).holds base B w' S' /\(∀b,l' =some b->l=some b\/w.heap.size<=b):=by
 subst hsz
 obtain⟨rfl,hlen⟩:=Rw hz'
 obtain⟨⟨cells,A,D,h3⟩,hbase⟩:=h
 obtain⟨l',cap',w',hr,hraw,hg,hnew,hold⟩:=DI (ty:=ty) ti hz h0 h128 M A hsrc hlen
 have hrc' :qA r S (cells++news) (xs++ys):=rZ D hrc
 -- what stood settled stands
 have hsat0: ∀k o,S k=some o-> ∃o',w'.heap[k]? =some o' /\Fh o o' :=fun k o hk=>by
  have hlt:=hs.lt hk
  by_cases hkl:l=some k
  ·obtain⟨o',e1,e2⟩:=hs k o hk
   by_cases hkl' :l' =some k
   ·subst hkl'
    subst hkl
    have h3' :=h3 k rfl
    cases mm with
    |false=>rw [h3']at hk;cases hk
    |true=>
     rw [h3']at hk
     cases hk
     obtain⟨cur',g1,g2,g3,g4,g5⟩:=hraw
     refine⟨_,g1,?_⟩;refine⟨news++cur'.toList.drop ((xs.length+ys.length)*r.sz),?_⟩
     congr 1
     apply Array.ext'
     rw [<-fk,<-g5,qU]
   ·rw [hold k hkl hkl'];exact hs k o hk
  ·rw [hg.heap k hlt hkl];exact hs k o hk
 have hsat:kp w' S:=⟨hsat0,hs.gl,hs.tb⟩
 have hSn: ∀b,l' =some b->l≠some b->S b=none:=fun b hb' hne=>by
  cases hq:S b with
  |none=>rfl
  |some q=>
   have:=hs.lt hq
   rcases hnew b hb' with h|h
   ·exact absurd h hne
   ·omega
 have hbase' : ∀k,l' =some k->base<=k\/B k:=fun k hk=>by
  rcases hnew k hk with h|h
  ·exact hbase k h
  ·exact .inl (by omega)
 have hz2:(xs++ys).length=xs.length+ys.length:=mV
 cases mm with
 |false=>
  refine⟨l',cap',w',S,by rw [hz2];exact hr,⟨hg.os,hg.tape,hg.output,hg.drawn,hg.size,fun k hk hkb=>hg.heap k hk hkb,SH.le_refl _,fun _ _ _=>rfl⟩,hsat,⟨⟨cells++news,by rw [hz2];exact hraw,hrc',fun b hb' =>?_⟩,hbase'⟩,hnew⟩
  by_cases hlb:l=some b
  ·exact h3 b hlb
  ·exact hSn b hb' hlb
 |true=>
  cases l' with
  |none=>
   refine⟨none,cap',w',S,by rw [hz2];exact hr,⟨hg.os,hg.tape,hg.output,hg.drawn,hg.size,fun k hk hkb=>hg.heap k hk hkb,SH.le_refl _,fun _ _ _=>rfl⟩,hsat,⟨⟨cells++news,by rw [hz2];exact hraw,hrc',fun b hb' =>(by cases hb')⟩,hbase'⟩,hnew⟩
  |some g=>
   have hq3: ∀q,S g=some q->Fh q (.cells (cells++news).toArray T (0,0)):=fun q hq=>by
    by_cases hlb:l=some g
    ·have h4:S g=some (.cells cells.toArray T (0,0)):=h3 g hlb
     rw [h4]at hq
     cases hq
     exact⟨news,by simp⟩
    ·rw [hSn g rfl hlb]at hq;cases hq
   have hle:pm S (S.set g (.cells (cells++news).toArray T (0,0))):=xB hq3
   obtain⟨cur',g1,g2,g3,g4,g5⟩:=hraw
   refine⟨some g,cap',w',S.set g (.cells (cells++news).toArray T (0,0)),by rw [hz2];exact hr,⟨hg.os,hg.tape,hg.output,hg.drawn,hg.size,fun k hk hkb=>hg.heap k hk hkb,hle,fun k hk hkb=>pY _ _ ?_⟩,hsat.set g1 ?_ hq3,⟨⟨cells++news,by rw [hz2];exact⟨cur',g1,g2,g3,g4,g5⟩,qp hle hrc',fun b hb' =>?_⟩,hbase'⟩,hnew⟩
   ·rintro rfl
    rcases hnew k rfl with h|h
    ·exact hkb h
    ·omega
   ·refine⟨cur'.toList.drop ((xs.length+ys.length)*r.sz),?_⟩
    congr 1
    apply Array.ext'
    rw [<-g5,qU]
   ·have hb2:g=b:=oD hb'
    subst hb2
    exact mS _ _ _

def LK{e f:OE}(h:e.apart f):f.apart e:=fun b H he=>h b he H
def cN.swap{base:Nat}{B:Nat->Prop}{e f:OE}(h:cN base B w S (e::f::O)):cN base B w S (f::e::O):=by
 obtain⟨A,D,h3,h4,h5⟩:=h
 refine⟨h3,?_,A,?_,h5⟩
 ·intro g hg
  rcases eW.1 hg with rfl|hg
  ·exact LK (D _ (lL ..))
  ·exact h4 g hg
 ·intro g hg
  exact D g (ma _ hg)
def lc{base:Nat}{B:Nat->Prop}{e:OE}{O' :List OE}(h:cN base B w S (e::O))(k:cN base B w S O->cN base B w S O')(hm: ∀f∈O',f∈O):cN base B w S (e::O'):=
 ⟨h.1,fun f hf=>h.2.1 f (hm f hf),k h.2.2⟩
def p3{base:Nat}{B:Nat->Prop}{a b c:OE}(h:cN base B w S (a::b::c::O)):cN base B w S (c::a::b::O):=
 (lc h cN.swap (fun f hf=>by simp only [eW]at hf ⊢;rcases hf with h|h|h<;>simp [h])).swap
def sx{base:Nat}{B:Nat->Prop}{a b c d:OE}(h:cN base B w S (a::b::c::d::O)):cN base B w S (d::a::b::c::O):=
 (lc h p3 (fun f hf=>by simp only [eW]at hf ⊢;rcases hf with h|h|h|h<;>simp [h])).swap
def sw{base:Nat}{B:Nat->Prop}{a b c d e:OE}(h:cN base B w S (a::b::c::d::e::O)):cN base B w S (e::a::b::c::d::O):=
 (lc h sx (fun f hf=>by simp only [eW]at hf ⊢;rcases hf with h|h|h|h|h<;>simp [h])).swap

section
variable{E:En}
def St.own_map{O' :List OE}(h:St E O G a w S)(k:cN E.base E.B w S O->cN E.base E.B w S O'):St E O' G a w S:=⟨h.ext,h.sat,k h.own,h.facts⟩
def St.base_le(h:St E O G a w S):E.base<=w.heap.size:=h.ext.size
def St.drop{e:OE}(h:St E (e::O) G a w S):St E O G a w S:=h.own_map fun h=>h.2.2
def St.fresh(mm:Bool)(r:Rp α)(T:TypeId)(h:St E O G a w S):St E (jR mm r T none 0 []::O) G a w S:=
 h.own_map fun h=>by refine⟨⟨⟨[],⟨rfl,rfl⟩,rfl,fun b H=>(by cases H)⟩,fun k hk=>?_⟩,fun f _ b H=>?_,h⟩<;>(first|cases hk|cases H)
def yW{e:OE}{b:Nat}{o:Obj}(h:St E (e::O) G a w S)(H:e.fp b)(ho:w.heap[b]? =some o')(hoo:Fh o o')(hn:S b=none):St E O G a w (S.set b o)/\pm S (S.set b o)/\jl (fun k=>k=b) w S w (S.set b o)/\kp w (S.set b o):=by
 have hbase:=h.own.1.2 b H
 have hle:pm S (S.set b o):=xB fun q hq=>(by rw [hn]at hq;cases hq)
 have hsat:kp w (S.set b o):=h.sat.set ho hoo fun q hq=>by rw [hn]at hq;cases hq
 have hext:jl (fun k=>k=b) w S w (S.set b o):=⟨rfl,rfl,rfl,eO _,eO _,fun _ _ _=>rfl,hle,fun k _ hk=>pY _ _ hk⟩
 refine⟨⟨h.ext.step hext fun c hc=>by subst hc;exact hbase,hsat,h.own.2.2.ext hext fun f hf c hc hm=>?_,h.facts.mono hle⟩,hle,hext,hsat⟩
 subst hm
 exact h.own.2.1 f hf c H hc
def tO{α:Type}(r:Rp α)(l:Option Nat)(cap:Nat)(xs:List α):Ty where
 p:=fun S v=>v=Y l cap xs.length/\(K (ek r) xs).p S v
 mono:=fun h ⟨A,D⟩=>⟨A,Ty.mono _ h D⟩
def vX{N:Fr}{G:lh}{r:Rp α}(h:aE N G x (tO r l cap xs)):aE N G x (Q (Y l cap xs.length)):=fun S a hf=>(h S a hf).1
def qZ{N:Fr}{G:lh}{r:Rp α}(h:aE N G x (tO r l cap xs)):aE N G x (K (ek r) xs):=fun S a hf=>(h S a hf).2
def kF{r:Rp α}{w:World}{S:SH}(h:xU true r T l cap xs w S):(K (ek r) xs).p S (Y l cap xs.length):=by
 obtain⟨cells,A,D,h3⟩:=h
 cases l with
 |none=>
  have V:xs=[]:=vE A.1
  subst V
  exact zR
 |some b=>
  obtain⟨cur,g1,g2,g3,g4,g5⟩:=A
  refine ln.2 ⟨_,cap,rfl,g2,g3,.inr ⟨b,0,cells.toArray,T,(0,0),rfl,h3 b rfl,?_⟩⟩
  have:=kC D
  rw [pA,nv (by simp [this])]
  exact D
def St.freeze{r:Rp α}(h:St E (d7 r T l cap xs::O) G a w S):
  ∃S',St E (Z r T l cap xs::O) G a w S' :=by
 obtain⟨⟨cells,A,D,h3⟩,hbase⟩:=h.own.1
 cases l with
 |none=>exact⟨S,h.ext,h.sat,⟨⟨⟨cells,A,D,fun b H=>(by cases H)⟩,hbase⟩,h.own.2⟩,h.facts⟩
 |some b=>
  obtain⟨cur,g1,g2,g3,g4,g5⟩:=A
  have hoo:Fh (.cells cells.toArray T (0,0)) (.cells cur T (0,0)):=by
   refine⟨cur.toList.drop (xs.length*r.sz),?_⟩
   congr 1
   apply Array.ext'
   rw [<-g5,qU]
  obtain⟨h8,hle,_,_⟩:=yW h rfl g1 hoo (h3 b rfl)
  refine⟨_,h8.ext,h8.sat,⟨⟨⟨cells,⟨cur,g1,g2,g3,g4,g5⟩,qp hle D,fun b' hb' =>?_⟩,hbase⟩,h.own.2.1,h8.own⟩,h8.facts⟩
  have hb2:b=b' :=oD hb'
  subst hb2
  exact mS _ _ _
def St.settle{r:Rp α}(h:St E (jR mm r T l cap xs::O) G a w S):
  ∃S',St E O G a w S' /\(K (ek r) xs).p S' (Y l cap xs.length):=by
 cases mm with
 |true=>exact⟨S,h.drop,kF h.own.1.1⟩
 |false=>
  obtain⟨S',A⟩:=h.freeze
  exact⟨S',A.drop,kF A.own.1.1⟩
end

section
variable{E:En}{e:Exit}
def Lo{N:Fr}(h:cu N S a G)(hk:t.p S (a.tmps.getD k undef)):cu N S a ((k,t)::G):=
 ⟨h.size,h.defers,fun j u hj=>by
  unfold look at hj
  by_cases H:Nat.beq k j=true
  ·rw [H]at hj
   have:=nU H
   subst this
   rw [<-show t=u from by simpa using hj];exact hk
  ·rw [AP]at H
   rw [H]at hj
   exact h.at_ j u hj⟩
def St.cons(h:St E O G a w S)(hk:t.p S (a.tmps.getD k undef)):St E O ((k,t)::G) a w S:=⟨h.ext,h.sat,h.own,Lo h.facts hk⟩
def St.tipAt{r:Rp α}{n:Nat}(h:St E (Z r T l cap xs::O) G a w S)(hk:look G k=some (Q (Y l cap n)))(hn:n=xs.length):
  St E (Z r T l cap xs::O) ((k,tO r l cap xs)::G) a w S:=by
 subst hn
 have hv:a.tmps.getD k undef=Y l cap xs.length:=h.facts.at_ k _ hk
 exact h.cons ⟨hv,by rw [hv];exact kF h.own.1.1⟩
def cn(mm:Bool)(r:Rp α)(T:TypeId)(h:RG E ops tV rest (jR mm r T none 0 []::O) G):RG E ops tV rest O G:=fun a w S st=>h a w S (st.fresh mm r T)
def nT{f:OE}(h:RG E ops tV rest O G):RG E ops tV rest (f::O) G:=fun a w S st=>h a w S st.drop
def CG.drop{f:OE}(h:CG E tV c O G):CG E tV c (f::O) G:=fun a w S st=>h a w S st.drop
def aK{f:OE}(h:AT E tV e O G):AT E tV e (f::O) G:=fun a w S st=>h a w S st.drop
def cE{x y:OE}(h:RG E ops tV rest (y::x::O) G):RG E ops tV rest (x::y::O) G:=fun a w S st=>h a w S (st.own_map cN.swap)
def dc{x y:OE}(h:AT E tV e (y::x::O) G):AT E tV e (x::y::O) G:=fun a w S st=>h a w S (st.own_map cN.swap)
def ib{x y z:OE}(h:RG E ops tV rest (z::x::y::O) G):RG E ops tV rest (x::y::z::O) G:=fun a w S st=>h a w S (st.own_map p3)
def Pt{x y z:OE}(h:CG E tV c (z::x::y::O) G):CG E tV c (x::y::z::O) G:=fun a w S st=>h a w S (st.own_map p3)
def gT{x y z:OE}(h:AT E tV e (z::x::y::O) G):AT E tV e (x::y::z::O) G:=fun a w S st=>h a w S (st.own_map p3)
def la{x y z:OE}(h:RG E ops tV rest (u::x::y::z::O) G):RG E ops tV rest (x::y::z::u::O) G:=fun a w S st=>h a w S (st.own_map sx)
def lg{x y z:OE}(h:AT E tV e (u::x::y::z::O) G):AT E tV e (x::y::z::u::O) G:=fun a w S st=>h a w S (st.own_map sx)
def rF{x y z v:OE}(h:RG E ops tV rest (v::x::y::z::u::O) G):RG E ops tV rest (x::y::z::u::v::O) G:=fun a w S st=>h a w S (st.own_map sw)
def nh{x y z v:OE}(h:AT E tV e (v::x::y::z::u::O) G):AT E tV e (x::y::z::u::v::O) G:=fun a w S st=>h a w S (st.own_map sw)
def C5{f:OE}(h:LG E tV c O G):LG E tV c (f::O) G:=fun a w S st=>h a w S st.drop
def gS{x y:OE}(h:LG E tV c (y::x::O) G):LG E tV c (x::y::O) G:=fun a w S st=>h a w S (st.own_map cN.swap)
def iY{x y z:OE}(h:LG E tV c (z::x::y::O) G):LG E tV c (x::y::z::O) G:=fun a w S st=>h a w S (st.own_map p3)
def rG{x y z:OE}(h:LG E tV c (u::x::y::z::O) G):LG E tV c (x::y::z::u::O) G:=fun a w S st=>h a w S (st.own_map sx)
def BH{x y z v:OE}(h:LG E tV c (v::x::y::z::u::O) G):LG E tV c (x::y::z::u::v::O) G:=fun a w S st=>h a w S (st.own_map sw)
def lb{r:Rp α}(h:RG E ops tV rest (Z r T l cap xs::O) G):RG E ops tV rest (d7 r T l cap xs::O) G:=fun a w _ st=>let⟨S',st'⟩:=st.freeze;h a w S' st'
def E3{r:Rp α}{n:Nat}(k:Nat)(hk:look G k=some (Q (Y l cap n)))(h:RG E ops tV rest (Z r T l cap xs::O) ((k,tO r l cap xs)::G))(hn:n=xs.length:=by rfl):RG E ops tV rest (Z r T l cap xs::O) G:=fun a w S st=>h a w S (st.tipAt hk hn)
def RJ{r:Rp α}{n:Nat}(k:Nat)(hk:look G k=some (Q (Y l cap n)))(h:CG E tV c (Z r T l cap xs::O) ((k,tO r l cap xs)::G))(hn:n=xs.length:=by rfl):CG E tV c (Z r T l cap xs::O) G:=fun a w S st=>h a w S (st.tipAt hk hn)
def xH{r:Rp α}(h:AT E tV e (Z r T l cap xs::O) G):AT E tV e (d7 r T l cap xs::O) G:=fun a w _ st=>let⟨S',st'⟩:=st.freeze;h a w S' st'
def ld{r:Rp α}{n:Nat}(k:Nat)(hk:look G k=some (Q (Y l cap n)))(h:AT E tV e (Z r T l cap xs::O) ((k,tO r l cap xs)::G))(hn:n=xs.length:=by rfl):AT E tV e (Z r T l cap xs::O) G:=fun a w S st=>h a w S (st.tipAt hk hn)
def Pp{r:Rp α}(h:LG E tV c (Z r T l cap xs::O) G):LG E tV c (d7 r T l cap xs::O) G:=fun a w _ st=>let⟨S',st'⟩:=st.freeze;h a w S' st'
def RE{r:Rp α}{n:Nat}(k:Nat)(hk:look G k=some (Q (Y l cap n)))(h:LG E tV c (Z r T l cap xs::O) ((k,tO r l cap xs)::G))(hn:n=xs.length:=by rfl):LG E tV c (Z r T l cap xs::O) G:=fun a w S st=>h a w S (st.tipAt hk hn)
def bF{r:Rp α}(hk:look G k=some (K (ek r) xs))(h:xs.length<=maxLen->CG E tV c O G):CG E tV c O G:=fun a w S st=>by
 obtain⟨_,_,_,A,D,_⟩:=ln.1 (st.facts.at_ k _ hk)
 exact h (lM A D) a w S st

section
variable{ty:TypeId}
def St.append{r:Rp α}{t ty:TypeId}{sz:Nat}{agg:Bool}(ti:TI E.P T sz bytes agg z)(hsz:r.sz=sz)(hz:Nat.beq z.length sz=true)(h0:Nat.blt 0 sz=true)(h128:Nat.ble bytes 2048=true)(M:E.P.underlying t=some (.slice T))(st:St E (jR mm r T l cap xs::O) G a w S)(hsrc:Src E.P r.sz t' v ys.length news w)(hrc:qA r S news ys)(happ:lm xs ys=some zs):
  ∃l' cap' w' S',(Builtin.append_ #[t,t'] ty #[Y l cap xs.length,v]).run E.P w= .ok (Y l' cap' zs.length) w' /\St E (jR mm r T l' cap' zs::O) G a w' S' :=by
 obtain⟨l',cap',w',S',hr,hext,hsat,hh,hnew⟩:=wg (ty:=ty) ti hsz hz h0 h128 M st.sat st.own.1 st.base_le hsrc hrc happ
 refine⟨l',cap',w',S',hr,st.ext.step hext fun b H=>st.own.1.2 b H,hsat,⟨hh,fun f hf b H hfb=>?_,st.own.2.2.ext hext fun f hf b H hbl=>st.own.2.1 f hf b hbl H⟩,st.facts.mono hext.keep⟩
 rcases hnew b H with h|h
 ·exact st.own.2.1 f hf b h hfb
 ·have:=f.here (cN.mem st.own.2.2 f hf).1 b hfb
  omega
def St.put{d:Nat}(h:St E O G a w S)(hd:Nat.blt d E.N.n=true)(hv:t.p S v):St E O ((d,t)::G) (a.put (some d) v) w S:=⟨h.ext,h.sat,h.own,h.facts.put hd hv⟩
def zu{r:Rp α}{t:TypeId}{sz:Nat}{agg:Bool}{n:Nat}{u:Nat->Option Nat->Ty}(ti:TI E.P T sz bytes agg z)(hsz:r.sz=sz)(hz:Nat.beq z.length sz=true)(h0:Nat.blt 0 sz=true)(h128:Nat.ble bytes 2048=true)(M:E.P.underlying t=some (.slice T))(hd:Nat.blt d E.N.n=true)(V:aE E.N G x (Q (Y l cap n)))(hy: ∀a w S,St E (jR mm r T l cap xs::O) G a w S-> ∃news,Src E.P r.sz t' (a.eval y) ys.length news w/\qA r S news ys)(happ:lm xs ys=some zs)(hu: ∀l' cap' w0 S,(jR mm r T l' cap' zs).p w0 S->(u cap' l').p S (Y l' cap' zs.length))(k: ∀l' cap',RG E ops tV rest (jR mm r T l' cap' zs::O) ((d,u cap' l')::G))(hn:n=xs.length):
  RG E ops tV (⟨some d,.call ⟨.builtin .append,#[x,y],#[t,t']⟩,ty,pos,after,none⟩::rest) (jR mm r T l cap xs::O) G:= .of rfl fun a w S st=>by
 subst hn
 have A:a.eval x=Y l cap xs.length:=V S a st.facts
 obtain⟨news,D,h3⟩:=hy a w S st
 obtain⟨l',cap',w',S',hr,st'⟩:=st.append (ty:=ty) ti hsz hz h0 h128 M D h3 happ
 have hrun:(execOp a.eval ⟨some d,.call ⟨.builtin .append,#[x,y],#[t,t']⟩,ty,pos,after,none⟩).run E.P w= .ok (.value (Y l' cap' zs.length)) w' :=by
  simp [execOp,resolve,invoke,builtin,A,hr]
 refine⟨fun c h=>(by cases h),?_⟩
 rw [hrun]
 exact k l' cap' _ _ S' (st'.put hd (hu l' cap' w' S' st'.own.1.1))
def fN{r:Rp α}{t:TypeId}{sz:Nat}{agg:Bool}{n:Nat}(ti:TI E.P T sz bytes agg z)(hsz:r.sz=sz)(hz:Nat.beq z.length sz=true)(h0:Nat.blt 0 sz=true)(h128:Nat.ble bytes 2048=true)(M:E.P.underlying t=some (.slice T))(ht' :t' =t)(hd:Nat.blt d E.N.n=true)(V:aE E.N G x (Q (Y l cap n)))(hy:aE E.N G y (K (ek r) ys))(happ:lm xs ys=some zs)(k: ∀l' cap',RG E ops tV rest (d7 r T l' cap' zs::O) ((d,Q (Y l' cap' zs.length))::G))(hn:n=xs.length:=by rfl):
  RG E ops tV (⟨some d,.call ⟨.builtin .append,#[x,y],#[t,t']⟩,ty,pos,after,none⟩::rest) (d7 r T l cap xs::O) G:=by
 subst ht'
 exact zu (u:=fun cap' l' =>Q (Y l' cap' zs.length)) ti hsz hz h0 h128 M hd V (fun a w S st=>vY M st.sat (hy S a st.facts)) happ (fun _ _ _ _ _=>rfl) k hn
def oe{r:Rp α}{t:TypeId}{sz:Nat}{agg:Bool}(ti:TI E.P T sz bytes agg z)(hsz:r.sz=sz)(hz:Nat.beq z.length sz=true)(h0:Nat.blt 0 sz=true)(h128:Nat.ble bytes 2048=true)(M:E.P.underlying t=some (.slice T))(ht' :t' =t)(hd:Nat.blt d E.N.n=true)(V:aE E.N G x (tO r l cap xs))(hy:aE E.N G y (K (ek r) ys))(happ:lm xs ys=some zs)(k: ∀l' cap',RG E ops tV rest (Z r T l' cap' zs::O) ((d,tO r l' cap' zs)::G)):
  RG E ops tV (⟨some d,.call ⟨.builtin .append,#[x,y],#[t,t']⟩,ty,pos,after,none⟩::rest) (Z r T l cap xs::O) G:=by
 subst ht'
 exact zu (u:=fun cap' l' =>tO r l' cap' zs) ti hsz hz h0 h128 M hd (vX V) (fun a w S st=>vY M st.sat (hy S a st.facts)) happ (fun _ _ _ _ h=>⟨rfl,kF h⟩) k rfl
end
end

def Am(off:Nat): ∀(cs:List Value) (k:Nat) (pre mid post:List Value),mid.length=cs.length->pre.length=off+k->
  (cs.zipIdx k).foldl (fun(a:Array Value) x=>a.setIfInBounds (off+x.2) x.1) (pre++mid++post).toArray=(pre++cs++post).toArray
 |[],k,pre,mid,post,hm,_=>by
  have:mid=[]:=vE hm
  subst this;simp
 |c::cs,k,pre,mid,post,hm,hp=>by
  cases mid with
  |nil=>simp at hm
  |cons m mid=>
   simp only [List.zipIdx_cons,List.foldl_cons]
   have A:(pre++(m::mid)++post).toArray.setIfInBounds (off+k) c=((pre++[c])++mid++post).toArray:=by
    rw [<-hp]
    simp
   rw [A,Am off cs (k+1) (pre++[c]) mid post (by simpa using hm) (by simp;omega)]
   simp
def zT(v:Value)(off:Nat)(pre mid post:List Value)(hm:mid.length=v.cells.size)(hp:pre.length=off):
  v.cells.zipIdx.foldl (fun cs (x:Value×Nat)=>cs.setIfInBounds (off+x.2) x.1) (pre++mid++post).toArray=(pre++v.cells.toList++post).toArray:=by
 have:=Am off v.cells.toList 0 pre mid post (by simpa using hm) (by simpa using hp)
 rw [<-this,<-Array.foldl_toList]
 simp [Array.toList_zipIdx]
def tZ{r:Rp α}{x:α}(h:r.rc S cs x):(r.val cs).cells=cs.toArray:=by
 unfold Rp.val
 cases ha:r.agg with
 |true=>simp [Value.cells]
 |false=>
  have hl:=r.len h
  rw [r.sc ha]at hl
  match cs,hl with
  |[c],_=>
   have:=r.one h c (by simp)
   cases c<;>simp_all [Value.cells,Value.oneCell']
def Cj:Nat->List Value->List (Nat×Value)
 |_,[]=>[]
 |k,v::vs=>(k,v)::Cj (k+1) vs
def Ey{α:Type}{r:Rp α}{S:SH}: ∀(ys:List α) (vs:List Value) (k:Nat) (pre zs:List Value),xV S (ys.map (K r)) vs->pre.length=k*r.sz->zs.length=ys.length*r.sz->
  ∃cs,qA r S cs ys/\Instr.fill (fun i=>some (i*r.sz,r.sz)) (pre++zs).toArray (Cj k vs)=some (pre++cs).toArray
 |[],[],k,pre,zs,_,_,hz=>by
  have:zs=[]:=vE (by simpa using hz)
  subst this
  exact⟨[],rfl,by simp [Cj,Instr.fill]⟩
 |y::ys,v::vs,k,pre,zs,⟨⟨c,e,hc⟩,D⟩,hp,hz=>by
  have hl:=r.len hc
  have hz' :r.sz<=zs.length:=by rw [hz,gz,xI];omega
  have e1:zs=zs.take r.sz++zs.drop r.sz:=(qU _ _).symm
  have hcells:v.cells=c.toArray:=by rw [e];exact tZ hc
  obtain⟨cs,h3,h4⟩:=Ey ys vs (k+1) (pre++c) (zs.drop r.sz) D (by rw [mV,hp,hl,xI];omega) (by rw [zK,hz,gz,xI];omega)
  refine⟨c++cs,⟨c,cs,rfl,hc,h3⟩,?_⟩
  have hs:v.cells.size=r.sz:=by rw [hcells];simpa using hl
  have hcond: ¬((v.cells.size≠r.sz)\/(k*r.sz+v.cells.size>(pre++zs).toArray.size)):=by
   simp [hs];omega
  have h5:=zT v (k*r.sz) pre (zs.take r.sz) (zs.drop r.sz) (by simp [hs];omega) hp
  rw [fk,<-e1]at h5
  simp only [Cj,Instr.fill]
  rw [bv (by simpa using hcond)]
  rw [h5,hcells]
  simpa using h4
def yx:Nat->List Operand->List (Nat×Operand)
 |_,[]=>[]
 |k,v::vs=>(k,v)::yx (k+1) vs
def BA(ρ:Operand->Value): ∀(k:Nat) (xs:List Operand),(yx k xs).map (fun x=>(x.1,ρ x.2))=Cj k (xs.map ρ)
 |_,[]=>rfl
 |k,x::xs=>by simp [yx,Cj,BA ρ (k+1) xs]

section
variable{E:En}{ty:TypeId}
def we{P:Program}{r:Rp α}{xs:List Operand}{ρ:Operand->Value}{t:TypeId}{n sz:Nat}{agg:Bool}(M:P.underlying t=some (.slice T))(ti:TI P T sz bytes agg z)(hsz:r.sz=sz)(hn:n=ys.length)(H:Nat.ble (n*sz) 16777216=true)(V:xV S (ys.map (K r)) (xs.map ρ))(w:World):
  ∃cs,qA r S cs ys/\(Instr.buildSlice t n ((yx 0 xs).toArray.map fun x=>(x.1,ρ x.2))).run P w= .ok (.slice (some ⟨w.heap.size,0,none⟩) n n) (w.alloc (.cells cs.toArray T (0,0))):=by
 subst hsz
 have hb' :=qE H
 obtain⟨zv,hzr,_⟩:=ti.zero w
 obtain⟨cs,hc,hfill⟩:=Ey ys (xs.map ρ) 0 [] ((Array.range (n*r.sz)).map (fun i=>(if n*r.sz=0 then #[]else zv.cells)[i%(if n*r.sz=0 then #[]else zv.cells).size]!)).toList V (by simp) (by simp [hn])
 refine⟨cs,hc,?_⟩
 have hparts:((yx 0 xs).toArray.map fun x=>(x.1,ρ x.2)).toList=Cj 0 (xs.map ρ):=by simp [BA]
 simp only [nu,Array.toArray_toList]at hfill
 have hle: ¬(n*r.sz>2^24):=by omega
 by_cases hn0:n*r.sz=0
 ·simp only [hn0,gW]at hfill
  simp only [Instr.buildSlice,pr,g9 M,ql,ti.sizeOf,Sem.run_ite,hn0,gW,BO,hparts,hfill]
  simp [newRow]
 ·simp only [hn0,ii]at hfill
  simp only [Instr.buildSlice,pr,g9 M,ql,ti.sizeOf,Sem.run_ite,hle,ii,hn0,BO,hzr,hparts,hfill]
  simp [newRow]
def aZ{r:Rp α}{xs:List Operand}{parts:List (Nat×Operand)}{t:TypeId}{n sz:Nat}{agg:Bool}(M:E.P.underlying t=some (.slice T))(ti:TI E.P T sz bytes agg z)(hsz:r.sz=sz)(h0:Nat.blt 0 sz=true)(hp:parts=yx 0 xs)(hn:n=ys.length)(H:Nat.ble (n*sz) 16777216=true)(V:iK E.N G xs (ys.map (K r))):bP E O G ⟨dst,.buildSlice t n parts.toArray,ty,pos,after,g⟩ (K (ek r) ys):=
 .of_run fun a w S hs _ hf=>by
  obtain⟨cs,hc,hr⟩:=we M ti hsz hn H (V.tys hf) w
  subst hsz
  have hb' :=qE H
  have h0' :0<r.sz:=by simpa [vL] using h0
  have hnle:n<=n*r.sz:=Nat.le_mul_of_pos_right n h0'
  obtain⟨he,hs'⟩:=tv (w:=w) (.cells cs.toArray T (0,0)) hs
  have hcl:=kC hc
  refine⟨.slice (some ⟨w.heap.size,0,none⟩) n n,_,_,?_,he,hs',ln.2 ⟨_,n,by rw [hn],by omega,by simp only [maxLen];omega,.inr ⟨w.heap.size,0,cs.toArray,T,(0,0),rfl,by simp [SH.set],?_⟩⟩⟩
  ·subst hp
   simp only [execOp,pr,hr,ql,BO]
  ·have:qA r (S.set w.heap.size (.cells cs.toArray T (0,0))) cs ys:=qp he.keep hc
   simpa [<-hcl] using this
def KS{r:Rp α}{v:α}(V:aE E.N G x (K r v)):bP E O G ⟨dst,.box T x,ty,pos,after,g⟩ (bn r v):=
 .of_run fun a w S hs _ hf=>by
  obtain⟨cs,hv,hc⟩:=V S a hf
  obtain⟨he,hs'⟩:=tv (w:=w) (.cells cs.toArray T (0,0)) hs
  refine⟨.pointer (some ⟨w.heap.size,0,none⟩),_,_,?_,he,hs',w.heap.size,0,cs.toArray,T,(0,0),rfl,by simp [SH.set],?_⟩
  ·simp [execOp,Instr.box,newVar,newRow,hv,tZ hc]
  ·have:=r.mono he.keep hc
   have hl:=r.len hc
   simpa [<-hl] using this
end

def nV(c:Bool)(t:Ty):Ty where
 p:=fun S v=>if c=true then t.p S v else v=undef
 mono:=fun h k=>by
  split
  ·rename_i hc;rw [bD hc]at k;exact t.mono h k
  ·rename_i hc;rw [bv hc]at k;exact k
variable{pol:Bool}
section
variable{E:En}
def db{N:Fr}{c:Bool}(h:look G k=some (nV c t))(hc:c=true):aE N G (.tmp k) t:=fun _ _ hF=>by
 have D:if c=true then t.p _ (Act.eval _ (.tmp k))else _=undef:=hF.at_ k _ h
 rw [bD hc]at D;exact D
def s0(c b:Bool):Ty:=nV c (K rB b)
def sZ(h:look G k=some (K rB b)):aE E.N G (.tmp k) (s0 true b):=fun _ _ hF=>by
 have D:(K rB b).p _ (Act.eval _ (.tmp k)):=hF.at_ k _ h
 simp only [s0,nV,gW]
 exact D
def Gr{c:Bool}(h:look G k=some (nV c (K rB b))):aE E.N G (.tmp k) (s0 c b):=fun _ _ hF=>hF.at_ k _ h
def Dk{c:Bool}(hg:o.guard=some (j,pol))(hj:(ops[j]?).bind (·.dst)=some gs)(hn:gs<a.tmps.size)(hv:(s0 c b).p S (a.tmps.getD gs undef)):
  Region.wanted o (yielded ops a.tmps)=(c&&(b==pol)):=by
 have hget:a.tmps[gs]? =some (a.tmps.getD gs undef):=by
  rw [GW,Array.getElem?_eq_getElem hn];rfl
 unfold Region.wanted
 rw [hg]
 simp only [yielded,hj,aP,hget]
 cases c with
 |true=>
  have:a.tmps.getD gs undef= .bool b:=i6.1 (by simpa [s0,nV] using hv)
  rw [this]
  cases b<;>cases pol<;>rfl
 |false=>
  have:a.tmps.getD gs undef=undef:=by simpa [s0,nV] using hv
  rw [this]
  cases pol<;>rfl
def H9{c:Bool}{op:Op}{ty:TypeId}(hj:(ops[j]?).bind (·.dst)=some gs)(hgs:Nat.blt gs E.N.n=true)(hg:aE E.N G (.tmp gs) (s0 c b))(hd:Nat.blt d E.N.n=true)(h:(c&&(b==pol))=true->bP E O G ⟨some d,op,ty,pos,after,some (j,pol)⟩ t)(k:RG E ops tV rest O ((d,nV (c&&(b==pol)) t)::G)):
  RG E ops tV (⟨some d,op,ty,pos,after,some (j,pol)⟩::rest) O G:=fun a w S st=>by
 have hgs' :gs<a.tmps.size:=by rw [st.facts.size];simpa [vL] using hgs
 have hw:=Dk (o:=⟨some d,op,ty,pos,after,some (j,pol)⟩) rfl hj hgs' (hg S a st.facts)
 refine wpListIn_step fun tD hK=>?_
 rw [hw]
 by_cases hc:(c&&(b==pol))=true
 ·rw [bD hc]
  refine jZ (fun a' w' ⟨v,S',ha,he,hs,hv⟩=>?_) (h hc a w S st.sat st.own st.facts)
  subst ha
  refine hK _ _ (k _ _ _ (st.step he hs hd ?_))
  simpa only [nV,hc,gW] using hv
 ·rw [bv hc]
  refine⟨fun _ _=>trivial,hK _ _ (k _ _ S (st.step (jl.refl _ _ _) st.sat hd ?_))⟩
  show if _ then _ else _
  rw [bv hc]
end

structure Nd where
 slot:Nat
 ty:Ty
 src:Option Nat
def be(E:En)(O:List OE)(ops:Array Oper)(need:lh)(o:Oper)(t:Ty):Prop:=
 ∀a w S,kp w S->cN E.base E.B w S O->cu E.N S a need->
  if Region.wanted o (yielded ops a.tmps)then I2 E.P o a w (fun a' w' => ∃v S',a' =a.put o.dst v/\jl sR w S w' S' /\kp w' S' /\t.p S' v)else t.p S undef
def iR:List Nd->lh
 |[]=>[]
 |n::l=>(n.slot,n.ty)::iR l
def BS(o:Oper)(j:Nat):Bool:=o.after.toList.any fun e=>Nat.beq e.on j&&Region.binds .any e
def nW(l:List Oper)(o:Oper)(i:Nat)(n:Nd):Bool:=
 match n.src with
 |some j=>(match l[j]? with|some p=>(match p.dst with|some d=>Nat.beq d n.slot|none=>false)|none=>false)&&BS o j
 |none=>l.all fun p=>(match p.dst with|some d=> !(Nat.beq d n.slot)|none=>true)||BS p i
def AK(G:lh)(ts:List Ty)(n:Nd):Prop:=
 match n.src with
 |some j=>ts[j]? =some n.ty
 |none=>look G n.slot=some n.ty
def qS(G:lh)(ts:List Ty):List Nd->Prop
 |[]=>True
 |n::l=>AK G ts n/\qS G ts l
def qS.mem: ∀{l:List Nd},qS G ts l-> ∀n∈l,AK G ts n
 |_::_,⟨h,_⟩,_,.head _=>h
 |_::_,⟨_,h⟩,_,.tail _ hm=>qS.mem h _ hm
def Tn(o:Oper):Nat:=o.dst.getD 0
def d6(i:Nat)(o:Oper):Bool:=o.after.toList.all fun e=> !(Region.binds .any e)||Nat.blt e.on i
def DR(E:En)(O:List OE)(G:lh)(l:List Oper)(ts:List Ty):Nat->List Oper->Prop
 |_,[]=>True
 |i,o::rest=>(∃(needs:List Nd) (t:Ty),ts[i]? =some t/\qS G ts needs/\(needs.all (nW l o i))=true/\d6 i o=true/\be E O l.toArray (iR needs) o t)/\DR E O G l ts (i+1) rest
def uy(N:Nat):List Nat->List Oper->Bool
 |_,[]=>true
 |seen,o::rest=>(match o.dst with|some d=>Nat.blt d N&& !(seen.any (Nat.beq d))&&uy N (d::seen) rest|none=>false)
def Zh(E:En)(O:List OE)(G:lh)(l:List Oper)(ts:List Ty)(i:Nat)(o:Oper):Prop:=
 ∃(needs:List Nd) (t:Ty),ts[i]? =some t/\qS G ts needs/\(needs.all (nW l o i))=true/\d6 i o=true/\be E O l.toArray (iR needs) o t
def DR.get{E:En}{l:List Oper}(r:List Oper): ∀(k:Nat),DR E O G l ts k r-> ∀(j:Nat) (o:Oper),r[j]? =some o->Zh E O G l ts (k+j) o:=by
 induction r with
 |nil=>intro k _ j o h;simp at h
 |cons p r ih=>
  intro k h j o ho
  cases j with
  |zero=>simp at ho;subst ho;exact h.1
  |succ j=>
   have:=ih (k+1) h.2 j o (by simpa using ho)
   rwa [show k+1+j=k+(j+1)from by omega]at this
def vZ{N:Nat}(l:List Oper): ∀(seen:List Nat),uy N seen l=true->
  (∀o:Oper,o∈l-> ∃d,o.dst=some d/\d<N/\d∉seen)/\ ∀(i j:Nat) (o p:Oper),l[i]? =some o->l[j]? =some p->o.dst=p.dst->i=j:=by
 induction l with
 |nil=>exact fun _ _=>⟨fun _ h=>(by cases h),fun _ _ _ _ h=>(by simp at h)⟩
 |cons o l ih=>
  intro seen h
  unfold uy at h
  cases hd:o.dst with
  |none=>rw [hd]at h;cases h
  |some d=>
   rw [hd]at h
   simp only [gU,vO]at h
   obtain⟨⟨A,D⟩,h3⟩:=h
   have h2' :d∉seen:=fun hm=>by
    rw [List.any_eq_false]at D
    exact D d hm (by simp)
   obtain⟨ih1,ih2⟩:=ih _ h3
   refine⟨fun q hq=>?_,fun i j q p hi hj hdp=>?_⟩
   ·rcases eW.1 hq with rfl|hq
    ·exact⟨d,hd,by simpa [vL] using A,h2'⟩
    ·obtain⟨d',e1,e2,e3⟩:=ih1 q hq
     exact⟨d',e1,e2,fun hm=>e3 (ma _ hm)⟩
   ·cases i with
    |zero=>
     cases j with
     |zero=>rfl
     |succ j=>
      simp at hi hj
      subst hi
      obtain⟨d',e1,_,e3⟩:=ih1 p (qD hj)
      rw [hd,e1]at hdp
      have e4:d=d' :=by simpa using hdp
      exact absurd (by rw [e4];exact lL ..) e3
    |succ i=>
     cases j with
     |zero=>
      simp at hi hj
      subst hj
      obtain⟨d',e1,_,e3⟩:=ih1 q (qD hi)
      rw [hd,e1]at hdp
      have e4:d' =d:=by simpa using hdp
      exact absurd (by rw [e4];exact lL ..) e3
     |succ j=>rw [ih2 i j q p (by simpa using hi) (by simpa using hj) hdp]

structure DJ(E:En)(O:List OE)(G:lh)(l:List Oper)(ts:List Ty)(done:Array Bool)(a:Act)(w:World)(S:SH):Prop where
 ext:jl E.B E.w0 E.S0 w S
 sat:kp w S
 own:cN E.base E.B w S O
 size:a.tmps.size=E.N.n
 defers:a.defers=E.N.ds
 dsz:done.size=l.length
 down: ∀j o,l[j]? =some o->done.getD j false=true-> ∀e∈o.after,Region.binds .any e=true->done.getD e.on false=true
 old: ∀k t,look G k=some t->(∀j o,l[j]? =some o->done.getD j false=true->o.dst≠some k)->t.p S (a.tmps.getD k undef)
 new: ∀j o d t,l[j]? =some o->done.getD j false=true->o.dst=some d->ts[j]? =some t->t.p S (a.tmps.getD d undef)
def DJ.need{E:En}{l:List Oper}(h:DJ E O G l ts done a w S)(hi:l[i]? =some o)(hun:done.getD i true=false)(hwait: ∀e∈o.after,Region.binds .any e=true->done.getD e.on false=true){needs:List Nd}(A:qS G ts needs)(D:(needs.all (nW l o i))=true):cu E.N S a (iR needs):=by
 have hlt:i<done.size:=by rw [h.dsz];exact(qB.1 hi).1
 have hun' :done.getD i false=false:=by
  simp [hlt]at hun ⊢;exact hun
 refine⟨h.size,h.defers,?_⟩
 have key: ∀n∈needs,n.ty.p S (a.tmps.getD n.slot undef):=by
  intro n hn
  have hs:=mo.1 D n hn
  have ho:=A.mem n hn
  unfold nW at hs
  unfold AK at ho
  cases hsrc:n.src with
  |some j=>
   rw [hsrc]at hs ho
   simp only [gU]at hs
   obtain⟨hs1,hs2⟩:=hs
   cases hj:l[j]? with
   |none=>rw [hj]at hs1;cases hs1
   |some p=>
    rw [hj]at hs1
    cases hd:p.dst with
    |none=>simp only [hd]at hs1;cases hs1
    |some d=>
     simp only [hd]at hs1
     have hd' :=nU hs1
     subst hd'
     have hdone:done.getD j false=true:=by
      unfold BS at hs2
      obtain⟨e,he0,H⟩:=Cq.1 hs2
      have he:e∈o.after:=by simpa using he0
      simp only [gU]at H
      have:=hwait e he H.2
      rwa [nU H.1]at this
     exact h.new j p n.slot n.ty hj hdone hd ho
  |none=>
   rw [hsrc]at hs ho
   refine h.old _ _ ho fun j p hj hdone hd=>?_
   have:=mo.1 hs p (qD hj)
   simp only [hd,Nat.beq_refl,oI,yD]at this
   unfold BS at this
   obtain⟨e,he0,H⟩:=Cq.1 this
   have he:e∈p.after:=by simpa using he0
   simp only [gU]at H
   have h3:=h.down j p hj hdone e he H.2
   rw [nU H.1]at h3
   rw [h3]at hun'
   cases hun'
 clear A D
 intro k t hk
 induction needs with
 |nil=>simp [iR,look]at hk
 |cons n needs ih=>
  unfold iR look at hk
  by_cases H:Nat.beq n.slot k=true
  ·rw [H]at hk
   have:=nU H
   subst this
   have e:n.ty=t:=by simpa using hk
   rw [<-e]
   exact key n (lL ..)
  ·rw [AP]at H
   rw [H]at hk
   exact ih (fun m hm=>key m (ma _ hm)) hk
def KM:List Oper->List Ty->lh->lh
 |o::l,t::ts,G=>(Tn o,t)::KM l ts G
 |_,_,G=>G
def Gi(l:List Oper): ∀(ts:List Ty) (k:Nat) (t:Ty),(∀o:Oper,o∈l->o.dst≠none)->ts.length=l.length->look (KM l ts G) k=some t->
  (∃(j:Nat) (o:Oper),l[j]? =some o/\o.dst=some k/\ts[j]? =some t)\/(look G k=some t/\ ∀o:Oper,o∈l->o.dst≠some k):=by
 induction l with
 |nil=>
  intro ts k t _ hl h
  have:ts=[]:=vE (by simpa using hl)
  subst this
  exact .inr ⟨h,fun _ h=>(by cases h)⟩
 |cons o l ih=>
  intro ts k t hne hl h
  cases ts with
  |nil=>simp at hl
  |cons u ts=>
   unfold KM look at h
   by_cases H:Nat.beq (Tn o) k=true
   ·rw [H]at h
    have hk:=nU H
    refine .inl ⟨0,o,rfl,?_,by simpa using h⟩
    cases hd:o.dst with
    |none=>exact absurd hd (hne o (lL ..))
    |some d=>simp only [Tn,hd,Option.getD_some]at hk;rw [hk]
   ·rw [AP]at H
    rw [H]at h
    rcases ih ts k t (fun p hp=>hne p (ma _ hp)) (by simpa using hl) h with⟨j,p,A,D,h3⟩|⟨A,D⟩
    ·exact .inl ⟨j+1,p,by simpa using A,D,by simpa using h3⟩
    ·refine .inr ⟨A,fun p hp hd=>?_⟩
     rcases eW.1 hp with rfl|hp
     ·simp [Tn,hd]at H
     ·exact D p hp hd
def sO(hd:d<a.tmps.size):(a.put (some d) v).tmps.getD k undef=if d=k then v else a.tmps.getD k undef:=by
 by_cases h:d=k
 ·subst h;simp [Act.put,GW,hd]
 ·simp [Act.put,GW,h]
def DJ.step{E:En}{l:List Oper}(h:DJ E O G l ts done a w S)(hsl:uy E.N.n [] l=true)(hi:l[i]? =some o)(hwait: ∀e∈o.after,Region.binds .any e=true->done.getD e.on false=true)(M:ts[i]? =some t)(hun:done.getD i true=false)(hext:jl sR w S w' S')(hsat:kp w' S')(hv:t.p S' v):DJ E O G l ts (done.setIfInBounds i true) (a.put o.dst v) w' S' :=by
 obtain⟨hs1,hs2⟩:=vZ l [] hsl
 obtain⟨d,hd,hdN,_⟩:=hs1 o (qD hi)
 have hda:d<a.tmps.size:=by rw [h.size];exact hdN
 have hlt:i<done.size:=by rw [h.dsz];exact(qB.1 hi).1
 have hset: ∀j,(done.setIfInBounds i true).getD j false=true->j=i\/done.getD j false=true:=fun j hj=>by
  by_cases hij:i=j
  ·exact .inl hij.symm
  ·rw [vf false hij]at hj;exact .inr hj
 have hseti:(done.setIfInBounds i true).getD i false=true:=by simp [hlt]
 have hun' :done.getD i false=false:=by simp [hlt]at hun ⊢;exact hun
 refine⟨h.ext.step0 hext,hsat,h.own.ext0 hext,?_,?_,by simp [h.dsz],fun j p hj hdone e he H=>?_,fun k u hk hno=>?_,fun j p d' u hj hdone hd' hu=>?_⟩
 ·rw [hd];simp [Act.put,h.size]
 ·rw [hd];exact h.defers
 ·rcases hset j hdone with rfl|hj'
  ·rw [hi]at hj
   have:o=p:=by simpa using hj
   subst this
   exact xJ (hwait e he H)
  ·exact xJ (h.down j p hj hj' e he H)
 ·have hne:d≠k:=fun e=>hno i o hi hseti (by rw [hd,e])
  rw [hd,sO hda,bv hne]
  exact u.mono hext.keep (h.old k u hk fun j p hj hdone=>hno j p hj (xJ hdone))
 ·rw [hd,sO hda]
  rcases hset j hdone with rfl|hj'
  ·rw [hi]at hj
   have:o=p:=by simpa using hj
   subst this
   rw [hd]at hd'
   have:d=d' :=by simpa using hd'
   subst this
   rw [bD rfl]
   rw [M]at hu
   have:t=u:=by simpa using hu
   subst this
   exact hv
  ·have hne:d≠d' :=fun e=>by
    subst e
    have:=hs2 i j o p hi hj (by rw [hd,hd'])
    subst this
    rw [hj']at hun';cases hun'
   rw [bv hne]
   exact u.mono hext.keep (h.new j p d' u hj hj' hd' hu)
def JN{l:List Oper}{done:Array Bool}(hsz:done.size=l.length)(hedge: ∀i o,l[i]? =some o->d6 i o=true)(hr:Region.ready .any l.toArray done=[]): ∀n i,i<n->i<l.length->done.getD i false=true
 |0,i,h,_=>by omega
 |n+1,i,h,hi=>by
  have ih:=JN hsz hedge hr n
  by_cases hd:done.getD i true=true
  ·have:i<done.size:=by omega
   simp [this]at hd ⊢;exact hd
  ·exfalso
   have hmem:i∈Region.ready .any l.toArray done:=by
    rw [rK]
    refine⟨by simpa using hd,l[i],by simp [hi],fun e he H=>?_⟩
    have:=hedge i l[i] (by simp [hi])
    unfold d6 at this
    have:=mo.1 this e (by simpa using he)
    simp only [H,oI,yD,vL]at this
    exact ih e.on (by omega) (by omega)
   rw [hr]at hmem
   cases hmem
def kb(done:Array Bool):Nat:=done.toList.countP (· ==false)
def pG(h:done.getD i true=false):kb (done.setIfInBounds i true)+1=kb done:=by
 have hlt:i<done.size:=by
  rcases mb i done.size with h' |h'
  ·exact h'
  ·simp [Array.getElem?_eq_none h']at h
 have hv:done[i]=false:=by simpa [hlt] using h
 unfold kb
 rw [Array.toList_setIfInBounds,List.countP_set (by simpa using hlt)]
 have D:(done.toList[i]'(by simpa using hlt))=false:=by simpa using hv
 have hpos:0<done.toList.countP (· ==false):=List.countP_pos_iff.2 ⟨done.toList[i]'(by simpa using hlt),Id _,by rw [D];rfl⟩
 rw [D,bD (show(false==false)=true from rfl),bv (show¬((true==false)=true) by decide)]
 omega
def Kh{E:En}{l:List Oper}(hsl:uy E.N.n [] l=true)(hd:DR E O G l ts 0 l)(hQ: ∀done a w S,DJ E O G l ts done a w S->(∀i,i<l.length->done.getD i false=true)->tV .normal a w):
  ∀(fuel:Nat) (done:Array Bool) (a:Act) (w:World) (S:SH),kb done=fuel->DJ E O G l ts done a w S->wpAnyIn (fw E.r) 0 E.P .any l.toArray tV fuel done a w:=by
 have hedge: ∀i o,l[i]? =some o->d6 i o=true:=fun i o hi=>by
  obtain⟨_,_,_,_,_,h,_⟩:=DR.get l 0 hd i o hi
  simpa using h
 have fin: ∀done a w S,DJ E O G l ts done a w S->Region.ready .any l.toArray done=[]->tV .normal a w:=fun done a w S h hr=>
  hQ done a w S h fun i hi=>JN h.dsz hedge hr (i+1) i (by omega) hi
 intro fuel
 induction fuel with
 |zero=>
  intro done a w S hu h
  have hr:Region.ready .any l.toArray done=[]:=by
   cases hr:Region.ready .any l.toArray done with
   |nil=>rfl
   |cons i r=>
    have hm:i∈Region.ready .any l.toArray done:=by rw [hr];exact lL ..
    have:=pG (rK.1 hm).1
    omega
  exact⟨hr,fin done a w S h hr⟩
 |succ fuel ih=>
  intro done a w S hu h
  refine⟨fin done a w S h,fun i hi=>?_⟩
  obtain⟨hun,o,ho,hwait⟩:=rK.1 hi
  have ho' :l[i]? =some o:=by simpa using ho
  obtain⟨needs,t,A,D,h3,_,h5⟩:=DR.get l 0 hd i o ho'
  rw [pz]at A h3
  have hF:=h.need ho' hun hwait D h3
  have h6:=h5 a w S h.sat h.own hF
  have hu' :kb (done.setIfInBounds i true)=fuel:=by have:=pG hun;omega
  unfold wpOpIn
  rw [ho]
  show if _ then _ else _
  by_cases hw:Region.wanted o (yielded l.toArray a.tmps)=true
  ·rw [bD hw]at h6 ⊢
   refine jZ (fun a' w' ⟨v,S',ha,he,hs,hv⟩=>?_) h6
   subst ha
   exact ih _ _ _ S' hu' (h.step hsl ho' hwait A hun he hs hv)
  ·rw [bv hw]at h6 ⊢
   exact⟨fun _ _=>trivial,ih _ _ _ S hu' (h.step hsl ho' hwait A hun (jl.refl _ _ _) h.sat h6)⟩
section
variable{E:En}
def ne{id:Nat}{l:List Oper}(hm:E.P.follows .mixedOrders=true)(hsl:uy E.N.n [] l=true)(hlen:ts.length=l.length)(hd:DR E O G l ts 0 l)(k:AT E tV .normal O (KM l ts G)):
  CG E tV (.region id l.toArray true) O G:=fun a w S st=>by
 refine wpIn_region_any hm ?_
 obtain⟨he,hs⟩:=AM (w:=w) st.sat
 refine Kh hsl hd (fun done a w S h hall=>k a w S ⟨h.ext,h.sat,h.own,h.size,h.defers,fun j t hj=>?_⟩) _ _ _ _ S ?_
  ⟨st.ext.step0 he,hs,st.own.ext0 he,st.facts.size,st.facts.defers,by simp,fun j o hj hdone=>?_,fun k t hk _=>st.facts.at_ k t hk,fun j o d t hj hdone=>?_⟩
 ·obtain⟨hs1,_⟩:=vZ l [] hsl
  rcases Gi l ts j t (fun o ho e=>by obtain⟨d,hd,_⟩:=hs1 o ho;rw [hd]at e;cases e) hlen hj with⟨i,o,A,D,h3⟩|⟨A,D⟩
  ·exact h.new i o j t A (hall i (qB.1 A).1) D h3
  ·exact h.old j t A fun i o ho _=>D o (qD ho)
 ·unfold kb;rw [L9,L0];simp
 ·simp [yH]at hdone
  split at hdone<;>simp at hdone
 ·simp [yH]at hdone
  split at hdone<;>simp at hdone
def aC{need:lh}(hg:o.guard=none)(h:bP E O need o t):be E O ops need o t:=fun a w S hs ho hf=>by
 have:Region.wanted o (yielded ops a.tmps)=true:=by unfold Region.wanted;rw [hg]
 rw [this,bD rfl]
 exact h a w S hs ho hf
def Co{l:List Oper}{need:lh}{c:Bool}(hg:o.guard=some (j,pol))(hj:((l.toArray)[j]?).bind (·.dst)=some gs)(hgs:Nat.blt gs E.N.n=true)(H:aE E.N need (.tmp gs) (s0 c b))(h:(c&&(b==pol))=true->bP E O need o t):be E O l.toArray need o (nV (c&&(b==pol)) t):=fun a w S hs ho hf=>by
 have hw:=Dk (ops:=l.toArray) hg hj (by rw [hf.size];simpa [vL] using hgs) (H S a hf)
 rw [hw]
 by_cases hc:(c&&(b==pol))=true
 ·rw [bD hc]
  refine m7 (fun a' w' ⟨v,S',ha,he,hs,hv⟩=>⟨v,S',ha,he,hs,?_⟩) (h hc a w S hs ho hf)
  show if _ then _ else _
  rw [bD hc];exact hv
 ·rw [bv hc]
  show if _ then _ else _
  rw [bv hc]
end
variable{α0:Type}{Gf:α0->lh}{Of:α0->List OE}{α1 α2 α3 α4 α5 α6:Type}
section
variable{E:En}
def Px{id:Nat}{aA:Prop}{Of:List OE}{Gf:lh}(hK:aA->AT E tV .normal (Of) (Gf))(h:(aA->AT E tV .normal (Of) (Gf))->CG E (Exit.inBlock id tV) c O G):CG E tV (.block id c) O G:=av (h hK)
def NI{aA:Nat->α0->Prop}(h0: ∀x0,aA 0 x0->False)(h: ∀n,(∀x0,aA n x0->LG E tV c (Of x0) (Gf x0))-> ∀x0,aA (n+1) x0->LG E tV c (Of x0) (Gf x0)): ∀n,∀x0,aA n x0->LG E tV c (Of x0) (Gf x0)
 |0=>fun x0 hz=>(h0 x0 hz).elim
 |n+1=>h n (NI h0 h n)
def jk{aA:List β->α0->Prop}{Of:List β->α0->List OE}{Gf:List β->α0->lh}(h0: ∀x0,aA [] x0->LG E tV c (Of [] x0) (Gf [] x0))(h: ∀b l,(∀x0,aA l x0->LG E tV c (Of l x0) (Gf l x0))-> ∀x0,aA (b::l) x0->LG E tV c (Of (b::l) x0) (Gf (b::l) x0)): ∀l,∀x0,aA l x0->LG E tV c (Of l x0) (Gf l x0)
 |[]=>h0
 |b::l=>h b l (jk h0 h l)
def NH{aA:Nat->α0->Prop}{Of:Nat->α0->List OE}{Gf:Nat->α0->lh}(h0: ∀x0,aA 0 x0->LG E tV c (Of 0 x0) (Gf 0 x0))(h: ∀n,(∀x0,aA n x0->LG E tV c (Of n x0) (Gf n x0))-> ∀x0,aA (n+1) x0->LG E tV c (Of (n+1) x0) (Gf (n+1) x0)): ∀n,∀x0,aA n x0->LG E tV c (Of n x0) (Gf n x0)
 |0=>h0
 |n+1=>h n (NH h0 h n)
def GQ{id:Nat}{aA:α0->Prop}(hK: ∀x0,aA x0->AT E tV .normal (Of x0) (Gf x0))(h:(∀x0,aA x0->AT E tV .normal (Of x0) (Gf x0))->CG E (Exit.inBlock id tV) c O G):CG E tV (.block id c) O G:=av (h hK)
def oB{x y:Code}{aA:α0->Prop}(hK: ∀x0,aA x0->CG E tV y (Of x0) (Gf x0))(h:(∀x0,aA x0->AT E (Exit.then (y.wpIn (fw E.r) 0 E.P tV) tV) .normal (Of x0) (Gf x0))->CG E (Exit.then (y.wpIn (fw E.r) 0 E.P tV) tV) x O G):CG E tV (.seq x y) O G:=aM (h (fun x0=>fun hz=>hK x0 hz))
def gM{aA:List β->α0->α1->Prop}{Of:List β->α0->α1->List OE}{Gf:List β->α0->α1->lh}(h0: ∀x0 x1,aA [] x0 x1->LG E tV c (Of [] x0 x1) (Gf [] x0 x1))(h: ∀b l,(∀x0 x1,aA l x0 x1->LG E tV c (Of l x0 x1) (Gf l x0 x1))-> ∀x0 x1,aA (b::l) x0 x1->LG E tV c (Of (b::l) x0 x1) (Gf (b::l) x0 x1)): ∀l,∀x0 x1,aA l x0 x1->LG E tV c (Of l x0 x1) (Gf l x0 x1)
 |[]=>h0
 |b::l=>h b l (gM h0 h l)
def NF{aA:Nat->α0->α1->Prop}{Of:Nat->α0->α1->List OE}{Gf:Nat->α0->α1->lh}(h0: ∀x0 x1,aA 0 x0 x1->LG E tV c (Of 0 x0 x1) (Gf 0 x0 x1))(h: ∀n,(∀x0 x1,aA n x0 x1->LG E tV c (Of n x0 x1) (Gf n x0 x1))-> ∀x0 x1,aA (n+1) x0 x1->LG E tV c (Of (n+1) x0 x1) (Gf (n+1) x0 x1)): ∀n,∀x0 x1,aA n x0 x1->LG E tV c (Of n x0 x1) (Gf n x0 x1)
 |0=>h0
 |n+1=>h n (NF h0 h n)
def BI{x y:Code}{aA:α0->α1->Prop}{Of:α0->α1->List OE}{Gf:α0->α1->lh}(hK: ∀x0 x1,aA x0 x1->CG E tV y (Of x0 x1) (Gf x0 x1))(h:(∀x0 x1,aA x0 x1->AT E (Exit.then (y.wpIn (fw E.r) 0 E.P tV) tV) .normal (Of x0 x1) (Gf x0 x1))->CG E (Exit.then (y.wpIn (fw E.r) 0 E.P tV) tV) x O G):CG E tV (.seq x y) O G:=aM (h (fun x0 x1=>fun hz=>hK x0 x1 hz))
def sB{aA:List β->α0->α1->α2->Prop}{Of:List β->α0->α1->α2->List OE}{Gf:List β->α0->α1->α2->lh}(h0: ∀x0 x1 x2,aA [] x0 x1 x2->LG E tV c (Of [] x0 x1 x2) (Gf [] x0 x1 x2))(h: ∀b l,(∀x0 x1 x2,aA l x0 x1 x2->LG E tV c (Of l x0 x1 x2) (Gf l x0 x1 x2))-> ∀x0 x1 x2,aA (b::l) x0 x1 x2->LG E tV c (Of (b::l) x0 x1 x2) (Gf (b::l) x0 x1 x2)): ∀l,∀x0 x1 x2,aA l x0 x1 x2->LG E tV c (Of l x0 x1 x2) (Gf l x0 x1 x2)
 |[]=>h0
 |b::l=>h b l (sB h0 h l)
def ND{aA:Nat->α0->α1->α2->Prop}{Of:Nat->α0->α1->α2->List OE}{Gf:Nat->α0->α1->α2->lh}(h0: ∀x0 x1 x2,aA 0 x0 x1 x2->LG E tV c (Of 0 x0 x1 x2) (Gf 0 x0 x1 x2))(h: ∀n,(∀x0 x1 x2,aA n x0 x1 x2->LG E tV c (Of n x0 x1 x2) (Gf n x0 x1 x2))-> ∀x0 x1 x2,aA (n+1) x0 x1 x2->LG E tV c (Of (n+1) x0 x1 x2) (Gf (n+1) x0 x1 x2)): ∀n,∀x0 x1 x2,aA n x0 x1 x2->LG E tV c (Of n x0 x1 x2) (Gf n x0 x1 x2)
 |0=>h0
 |n+1=>h n (ND h0 h n)
def Pw{id:Nat}{aA:α0->α1->α2->Prop}{Of:α0->α1->α2->List OE}{Gf:α0->α1->α2->lh}(hK: ∀x0 x1 x2,aA x0 x1 x2->AT E tV .normal (Of x0 x1 x2) (Gf x0 x1 x2))(h:(∀x0 x1 x2,aA x0 x1 x2->AT E tV .normal (Of x0 x1 x2) (Gf x0 x1 x2))->CG E (Exit.inBlock id tV) c O G):CG E tV (.block id c) O G:=av (h hK)
def um{x y:Code}{aA:α0->α1->α2->Prop}{Of:α0->α1->α2->List OE}{Gf:α0->α1->α2->lh}(hK: ∀x0 x1 x2,aA x0 x1 x2->CG E tV y (Of x0 x1 x2) (Gf x0 x1 x2))(h:(∀x0 x1 x2,aA x0 x1 x2->AT E (Exit.then (y.wpIn (fw E.r) 0 E.P tV) tV) .normal (Of x0 x1 x2) (Gf x0 x1 x2))->CG E (Exit.then (y.wpIn (fw E.r) 0 E.P tV) tV) x O G):CG E tV (.seq x y) O G:=aM (h (fun x0 x1 x2=>fun hz=>hK x0 x1 x2 hz))
def sA{aA:List β->α0->α1->α2->α3->Prop}{Of:List β->α0->α1->α2->α3->List OE}{Gf:List β->α0->α1->α2->α3->lh}(h0: ∀x0 x1 x2 x3,aA [] x0 x1 x2 x3->LG E tV c (Of [] x0 x1 x2 x3) (Gf [] x0 x1 x2 x3))(h: ∀b l,(∀x0 x1 x2 x3,aA l x0 x1 x2 x3->LG E tV c (Of l x0 x1 x2 x3) (Gf l x0 x1 x2 x3))-> ∀x0 x1 x2 x3,aA (b::l) x0 x1 x2 x3->LG E tV c (Of (b::l) x0 x1 x2 x3) (Gf (b::l) x0 x1 x2 x3)): ∀l,∀x0 x1 x2 x3,aA l x0 x1 x2 x3->LG E tV c (Of l x0 x1 x2 x3) (Gf l x0 x1 x2 x3)
 |[]=>h0
 |b::l=>h b l (sA h0 h l)
def NC{aA:Nat->α0->α1->α2->α3->Prop}{Of:Nat->α0->α1->α2->α3->List OE}{Gf:Nat->α0->α1->α2->α3->lh}(h0: ∀x0 x1 x2 x3,aA 0 x0 x1 x2 x3->LG E tV c (Of 0 x0 x1 x2 x3) (Gf 0 x0 x1 x2 x3))(h: ∀n,(∀x0 x1 x2 x3,aA n x0 x1 x2 x3->LG E tV c (Of n x0 x1 x2 x3) (Gf n x0 x1 x2 x3))-> ∀x0 x1 x2 x3,aA (n+1) x0 x1 x2 x3->LG E tV c (Of (n+1) x0 x1 x2 x3) (Gf (n+1) x0 x1 x2 x3)): ∀n,∀x0 x1 x2 x3,aA n x0 x1 x2 x3->LG E tV c (Of n x0 x1 x2 x3) (Gf n x0 x1 x2 x3)
 |0=>h0
 |n+1=>h n (NC h0 h n)
def Pv{id:Nat}{aA:α0->α1->α2->α3->Prop}{Of:α0->α1->α2->α3->List OE}{Gf:α0->α1->α2->α3->lh}(hK: ∀x0 x1 x2 x3,aA x0 x1 x2 x3->AT E tV .normal (Of x0 x1 x2 x3) (Gf x0 x1 x2 x3))(h:(∀x0 x1 x2 x3,aA x0 x1 x2 x3->AT E tV .normal (Of x0 x1 x2 x3) (Gf x0 x1 x2 x3))->CG E (Exit.inBlock id tV) c O G):CG E tV (.block id c) O G:=av (h hK)
def Fb{aA:List β->α0->α1->α2->α3->α4->Prop}{Of:List β->α0->α1->α2->α3->α4->List OE}{Gf:List β->α0->α1->α2->α3->α4->lh}(h0: ∀x0 x1 x2 x3 x4,aA [] x0 x1 x2 x3 x4->LG E tV c (Of [] x0 x1 x2 x3 x4) (Gf [] x0 x1 x2 x3 x4))(h: ∀b l,(∀x0 x1 x2 x3 x4,aA l x0 x1 x2 x3 x4->LG E tV c (Of l x0 x1 x2 x3 x4) (Gf l x0 x1 x2 x3 x4))-> ∀x0 x1 x2 x3 x4,aA (b::l) x0 x1 x2 x3 x4->LG E tV c (Of (b::l) x0 x1 x2 x3 x4) (Gf (b::l) x0 x1 x2 x3 x4)): ∀l,∀x0 x1 x2 x3 x4,aA l x0 x1 x2 x3 x4->LG E tV c (Of l x0 x1 x2 x3 x4) (Gf l x0 x1 x2 x3 x4)
 |[]=>h0
 |b::l=>h b l (Fb h0 h l)
def Ps{x y:Code}{aA:α0->α1->α2->α3->α4->Prop}{Of:α0->α1->α2->α3->α4->List OE}{Gf:α0->α1->α2->α3->α4->lh}(hK: ∀x0 x1 x2 x3 x4,aA x0 x1 x2 x3 x4->CG E tV y (Of x0 x1 x2 x3 x4) (Gf x0 x1 x2 x3 x4))(h:(∀x0 x1 x2 x3 x4,aA x0 x1 x2 x3 x4->AT E (Exit.then (y.wpIn (fw E.r) 0 E.P tV) tV) .normal (Of x0 x1 x2 x3 x4) (Gf x0 x1 x2 x3 x4))->CG E (Exit.then (y.wpIn (fw E.r) 0 E.P tV) tV) x O G):CG E tV (.seq x y) O G:=aM (h (fun x0 x1 x2 x3 x4=>fun hz=>hK x0 x1 x2 x3 x4 hz))
def Pu{id:Nat}{aA:α0->α1->α2->α3->α4->α5->Prop}{Of:α0->α1->α2->α3->α4->α5->List OE}{Gf:α0->α1->α2->α3->α4->α5->lh}(hK: ∀x0 x1 x2 x3 x4 x5,aA x0 x1 x2 x3 x4 x5->AT E tV .normal (Of x0 x1 x2 x3 x4 x5) (Gf x0 x1 x2 x3 x4 x5))(h:(∀x0 x1 x2 x3 x4 x5,aA x0 x1 x2 x3 x4 x5->AT E tV .normal (Of x0 x1 x2 x3 x4 x5) (Gf x0 x1 x2 x3 x4 x5))->CG E (Exit.inBlock id tV) c O G):CG E tV (.block id c) O G:=av (h hK)
def Fa{aA:List β->α0->α1->α2->α3->α4->α5->α6->Prop}{Of:List β->α0->α1->α2->α3->α4->α5->α6->List OE}{Gf:List β->α0->α1->α2->α3->α4->α5->α6->lh}(h0: ∀x0 x1 x2 x3 x4 x5 x6,aA [] x0 x1 x2 x3 x4 x5 x6->LG E tV c (Of [] x0 x1 x2 x3 x4 x5 x6) (Gf [] x0 x1 x2 x3 x4 x5 x6))(h: ∀b l,(∀x0 x1 x2 x3 x4 x5 x6,aA l x0 x1 x2 x3 x4 x5 x6->LG E tV c (Of l x0 x1 x2 x3 x4 x5 x6) (Gf l x0 x1 x2 x3 x4 x5 x6))-> ∀x0 x1 x2 x3 x4 x5 x6,aA (b::l) x0 x1 x2 x3 x4 x5 x6->LG E tV c (Of (b::l) x0 x1 x2 x3 x4 x5 x6) (Gf (b::l) x0 x1 x2 x3 x4 x5 x6)): ∀l,∀x0 x1 x2 x3 x4 x5 x6,aA l x0 x1 x2 x3 x4 x5 x6->LG E tV c (Of l x0 x1 x2 x3 x4 x5 x6) (Gf l x0 x1 x2 x3 x4 x5 x6)
 |[]=>h0
 |b::l=>h b l (Fa h0 h l)
def NB{aA:Nat->α0->α1->α2->α3->α4->α5->α6->Prop}{Of:Nat->α0->α1->α2->α3->α4->α5->α6->List OE}{Gf:Nat->α0->α1->α2->α3->α4->α5->α6->lh}(h0: ∀x0 x1 x2 x3 x4 x5 x6,aA 0 x0 x1 x2 x3 x4 x5 x6->LG E tV c (Of 0 x0 x1 x2 x3 x4 x5 x6) (Gf 0 x0 x1 x2 x3 x4 x5 x6))(h: ∀n,(∀x0 x1 x2 x3 x4 x5 x6,aA n x0 x1 x2 x3 x4 x5 x6->LG E tV c (Of n x0 x1 x2 x3 x4 x5 x6) (Gf n x0 x1 x2 x3 x4 x5 x6))-> ∀x0 x1 x2 x3 x4 x5 x6,aA (n+1) x0 x1 x2 x3 x4 x5 x6->LG E tV c (Of (n+1) x0 x1 x2 x3 x4 x5 x6) (Gf (n+1) x0 x1 x2 x3 x4 x5 x6)): ∀n,∀x0 x1 x2 x3 x4 x5 x6,aA n x0 x1 x2 x3 x4 x5 x6->LG E tV c (Of n x0 x1 x2 x3 x4 x5 x6) (Gf n x0 x1 x2 x3 x4 x5 x6)
 |0=>h0
 |n+1=>h n (NB h0 h n)
def Pr{x y:Code}{α7:Type}{aA:α0->α1->α2->α3->α4->α5->α6->α7->Prop}{Of:α0->α1->α2->α3->α4->α5->α6->α7->List OE}{Gf:α0->α1->α2->α3->α4->α5->α6->α7->lh}(hK: ∀x0 x1 x2 x3 x4 x5 x6 x7,aA x0 x1 x2 x3 x4 x5 x6 x7->CG E tV y (Of x0 x1 x2 x3 x4 x5 x6 x7) (Gf x0 x1 x2 x3 x4 x5 x6 x7))(h:(∀x0 x1 x2 x3 x4 x5 x6 x7,aA x0 x1 x2 x3 x4 x5 x6 x7->AT E (Exit.then (y.wpIn (fw E.r) 0 E.P tV) tV) .normal (Of x0 x1 x2 x3 x4 x5 x6 x7) (Gf x0 x1 x2 x3 x4 x5 x6 x7))->CG E (Exit.then (y.wpIn (fw E.r) 0 E.P tV) tV) x O G):CG E tV (.seq x y) O G:=aM (h (fun x0 x1 x2 x3 x4 x5 x6 x7=>fun hz=>hK x0 x1 x2 x3 x4 x5 x6 x7 hz))
def E9{α7 α8:Type}{aA:List β->α0->α1->α2->α3->α4->α5->α6->α7->α8->Prop}{Of:List β->α0->α1->α2->α3->α4->α5->α6->α7->α8->List OE}{Gf:List β->α0->α1->α2->α3->α4->α5->α6->α7->α8->lh}(h0: ∀x0 x1 x2 x3 x4 x5 x6 x7 x8,aA [] x0 x1 x2 x3 x4 x5 x6 x7 x8->LG E tV c (Of [] x0 x1 x2 x3 x4 x5 x6 x7 x8) (Gf [] x0 x1 x2 x3 x4 x5 x6 x7 x8))(h: ∀b l,(∀x0 x1 x2 x3 x4 x5 x6 x7 x8,aA l x0 x1 x2 x3 x4 x5 x6 x7 x8->LG E tV c (Of l x0 x1 x2 x3 x4 x5 x6 x7 x8) (Gf l x0 x1 x2 x3 x4 x5 x6 x7 x8))-> ∀x0 x1 x2 x3 x4 x5 x6 x7 x8,aA (b::l) x0 x1 x2 x3 x4 x5 x6 x7 x8->LG E tV c (Of (b::l) x0 x1 x2 x3 x4 x5 x6 x7 x8) (Gf (b::l) x0 x1 x2 x3 x4 x5 x6 x7 x8)): ∀l,∀x0 x1 x2 x3 x4 x5 x6 x7 x8,aA l x0 x1 x2 x3 x4 x5 x6 x7 x8->LG E tV c (Of l x0 x1 x2 x3 x4 x5 x6 x7 x8) (Gf l x0 x1 x2 x3 x4 x5 x6 x7 x8)
 |[]=>h0
 |b::l=>h b l (E9 h0 h l)
end
def bs{α:Type _}{β:Type _}{x:Option α}{k:α->Option β}{r:β}(h:x.bind k=some r): ∃y,x=some y/\k y=some r:=by
 cases x with
 |none=>cases h
 |some y=>exact⟨y,rfl,h⟩
def ct{β:Type _}{x y:Option β}{r:β}(h:(if b=true then x else y)=some r)(H:b=true):x=some r:=by rwa [bD H]at h
def cf{β:Type _}{x y:Option β}{r:β}(h:(if b=true then x else y)=some r)(H:b=false):y=some r:=by rwa [bv (by rw [H];decide)]at h
def so{β:Type _}{x r:β}(h:some x=some r):x=r:=by simpa using h
def og [Inhabited α]{x:Option α}{k:α->Option β}{d:Option β}{r:β}(h:(if b=true then x.bind k else d)=some r): ∃y,(b=true->x=some y/\k y=some r)/\(b=false->d=some r):=by
 cases b with
 |true=>obtain⟨y,A,D⟩:=bs (ct h rfl);exact⟨y,fun _=>⟨A,D⟩,fun e=>(by cases e)⟩
 |false=>exact⟨default,fun e=>(by cases e),fun _=>cf h rfl⟩

def bA{α β:Type}(p:Rp α)(q:Rp β):Rp (α×β) where
 sz:=p.sz+q.sz
 agg:=true
 rc:=fun S cs x=> ∃a b,cs=a++b/\p.rc S a x.1/\q.rc S b x.2
 mono:=fun h ⟨a,b,e,A,D⟩=>⟨a,b,e,p.mono h A,q.mono h D⟩
 len:=fun⟨a,b,e,A,D⟩=>by rw [e,mV,p.len A,q.len D]
 one:=fun⟨a,b,e,A,D⟩ c hc=>by
  rw [e]at hc
  rcases xK.1 hc with h|h
  ·exact p.one A c h
  ·exact q.one D c h
 sc:=fun h=>by cases h
def iM{α β:Type}(p:Rp α)(f:β->α):Rp β where
 sz:=p.sz
 agg:=true
 rc:=fun S cs x=>p.rc S cs (f x)
 mono:=fun h k=>p.mono h k
 len:=fun h=>p.len h
 one:=fun h=>p.one h
 sc:=fun h=>by cases h
def bq{p:Rp α}{f:β->α}:iZ (iM p f) 0 p f:=fun S cs x h=>by
 have h' :p.rc S cs (f x):=h
 have hl:=p.len h'
 rw [pA,<-hl,xY];exact h'
def ck{γ:Type}{p:Rp α}{q:Rp β}{r:Rp γ}{get:γ->α×β}(h:iZ r off (bA p q) get):iZ r off p (fun x=>(get x).1):=fun S cs x k=>by
 obtain⟨a,b,e,A,D⟩:=h S cs x k
 have hl:=p.len A
 have hl2:=q.len D
 have:(cs.drop off).take p.sz=a:=by
  have e2:=congrArg (List.take p.sz) e
  rw [vg,zE (by show p.sz<=p.sz+q.sz;omega),<-hl,List.take_left]at e2
  rw [<-hl];exact e2
 rw [this];exact A
def ay{γ:Type}{p:Rp α}{q:Rp β}{r:Rp γ}{off' :Nat}{get:γ->α×β}(h:iZ r off (bA p q) get)(ho:off' =off+p.sz):iZ r off' q (fun x=>(get x).2):=fun S cs x k=>by
 obtain⟨a,b,e,A,D⟩:=h S cs x k
 have hl:=p.len A
 have hl2:=q.len D
 have:(cs.drop off').take q.sz=b:=by
  have e2:=congrArg (List.drop p.sz) e
  rw [zJ,uo,<-hl,List.drop_left]at e2
  rw [ho,<-hl,<-e2]
  congr 1
  show q.sz=p.sz+q.sz-a.length
  omega
 rw [this];exact D

section
variable{E:En}
def TG{op:Op}{ty:TypeId}(hj:(ops[j]?).bind (·.dst)=some gs)(hgs:Nat.blt gs E.N.n=true)(hg:look G gs=some (K rB b))(hd:Nat.blt d E.N.n=true)(h:b=true->bP E O G ⟨some d,op,ty,pos,after,some (j,true)⟩ t)(k:RG E ops tV rest O ((d,nV b t)::G)):RG E ops tV (⟨some d,op,ty,pos,after,some (j,true)⟩::rest) O G:=by
 have e:(true&&(b==true))=b:=by cases b<;>rfl
 exact H9 hj hgs (sZ hg) hd (by rw [e];exact h) (by rw [e];exact k)
def TH{op:Op}{ty:TypeId}(hj:(ops[j]?).bind (·.dst)=some gs)(hgs:Nat.blt gs E.N.n=true)(hg:look G gs=some (K rB b))(hd:Nat.blt d E.N.n=true)(h:(!b)=true->bP E O G ⟨some d,op,ty,pos,after,some (j,false)⟩ t)(k:RG E ops tV rest O ((d,nV (!b) t)::G)):RG E ops tV (⟨some d,op,ty,pos,after,some (j,false)⟩::rest) O G:=by
 have e:(true&&(b==false))= !b:=by cases b<;>rfl
 exact H9 hj hgs (sZ hg) hd (by rw [e];exact h) (by rw [e];exact k)
def fa{c:Bool}{op:Op}{ty:TypeId}(hj:(ops[j]?).bind (·.dst)=some gs)(hgs:Nat.blt gs E.N.n=true)(hg:look G gs=some (nV c (K rB b)))(hd:Nat.blt d E.N.n=true)(h:(c&&b)=true->bP E O G ⟨some d,op,ty,pos,after,some (j,true)⟩ t)(k:RG E ops tV rest O ((d,nV (c&&b) t)::G)):RG E ops tV (⟨some d,op,ty,pos,after,some (j,true)⟩::rest) O G:=by
 have e:(c&&(b==true))=(c&&b):=by cases b<;>rfl
 exact H9 hj hgs (Gr hg) hd (by rw [e];exact h) (by rw [e];exact k)
def gL{c:Bool}{op:Op}{ty:TypeId}(hj:(ops[j]?).bind (·.dst)=some gs)(hgs:Nat.blt gs E.N.n=true)(hg:look G gs=some (nV c (K rB b)))(hd:Nat.blt d E.N.n=true)(h:(c&& !b)=true->bP E O G ⟨some d,op,ty,pos,after,some (j,false)⟩ t)(k:RG E ops tV rest O ((d,nV (c&& !b) t)::G)):RG E ops tV (⟨some d,op,ty,pos,after,some (j,false)⟩::rest) O G:=by
 have e:(c&&(b==false))=(c&& !b):=by cases b<;>rfl
 exact H9 hj hgs (Gr hg) hd (by rw [e];exact h) (by rw [e];exact k)
def sy{l:List Oper}{need:lh}(hg:o.guard=some (j,true))(hj:((l.toArray)[j]?).bind (·.dst)=some gs)(hgs:Nat.blt gs E.N.n=true)(H:look need gs=some (K rB b))(h:b=true->bP E O need o t):be E O l.toArray need o (nV b t):=by
 have e:(true&&(b==true))=b:=by cases b<;>rfl
 have:=Co (t:=t) hg hj hgs (sZ (E:=E) H) (by rw [e];exact h)
 rwa [e]at this
def vd{l:List Oper}{need:lh}(hg:o.guard=some (j,false))(hj:((l.toArray)[j]?).bind (·.dst)=some gs)(hgs:Nat.blt gs E.N.n=true)(H:look need gs=some (K rB b))(h:(!b)=true->bP E O need o t):be E O l.toArray need o (nV (!b) t):=by
 have e:(true&&(b==false))= !b:=by cases b<;>rfl
 have:=Co (t:=t) hg hj hgs (sZ (E:=E) H) (by rw [e];exact h)
 rwa [e]at this
def vK{a:Bool}(h:a=true)(k:b=true):(a&&b)=true:=by rw [h,k];rfl
def vG{a:Bool}(h:a=false):(!a)=true:=by rw [h];rfl
def qy{c:Operand}{x y:Code}(H:aE E.N G c (K rB b))(h:b=true)(V:CG E tV x O G):CG E tV (.cond c x y) O G:=C6 H (fun _=>V) (fun e=>by rw [h]at e;cases e)
def qz{c:Operand}{x y:Code}(H:aE E.N G c (K rB b))(h:b=false)(hy:CG E tV y O G):CG E tV (.cond c x y) O G:=C6 H (fun e=>by rw [h]at e;cases e) (fun _=>hy)
end
def U0 [Inhabited α]{x:Option α}{k:α->Option β}{r:β}(h:b=true->x.bind k=some r): ∃y,b=true->x=some y/\k y=some r:=by
 cases b with
 |true=>obtain⟨y,A,D⟩:=bs (h rfl);exact⟨y,fun _=>⟨A,D⟩⟩
 |false=>exact⟨default,fun e=>(by cases e)⟩
section
variable{E:En}{ty:TypeId}
def lv{c:Operand}(hc:aE E.N G c (K rB b))(V:b=true->aE E.N G x (K rB q)):bP E O G ⟨dst,.pick c x (.const (.bool false)),ty,pos,after,g⟩ (K rB (b&&q)):=by
 refine CV hc (fun h=>?_) (fun h=>?_)
 ·subst h;exact V rfl
 ·subst h;exact hB
def Oy{c:Operand}(hc:aE E.N G c (K rB b))(V:b=false->aE E.N G x (K rB q)):bP E O G ⟨dst,.pick c (.const (.bool true)) x,ty,pos,after,g⟩ (K rB (b||q)):=by
 refine CV hc (fun h=>?_) (fun h=>?_)
 ·subst h;exact hB
 ·subst h;exact V rfl
def cW{c:Operand}{t:Bool}(hc:aE E.N G c (K rB b))(V:b=true->aE E.N G x (K rB q))(e1:b=true->some q=some t)(e0:b=false->some false=some t):bP E O G ⟨dst,.pick c x (.const (.bool false)),ty,pos,after,g⟩ (K rB t):=by
 refine CV hc (fun h=>?_) (fun h=>?_)
 ·rw [<-so (e1 h)];exact V h
 ·rw [<-so (e0 h)];exact hB
def fy{c:Operand}{t:Bool}(hc:aE E.N G c (K rB b))(V:b=false->aE E.N G x (K rB q))(e1:(!b)=true->some q=some t)(e0:(!b)=false->some true=some t):bP E O G ⟨dst,.pick c (.const (.bool true)) x,ty,pos,after,g⟩ (K rB t):=by
 refine CV hc (fun h=>?_) (fun h=>?_)
 ·rw [<-so (e0 (by rw [h];rfl))];exact hB
 ·rw [<-so (e1 (by rw [h];rfl))];exact V h
def D9(hi:ts[i]? =some t)(V:aE E.N G x (tT ts)):bP E O G ⟨dst,.extract x i,ty,pos,after,g⟩ t:=
 .of_pure fun a w S _ _ hf=>by
  obtain⟨vs,A,D⟩:=V S a hf
  obtain⟨v,h3,h4⟩:=D.at_ i t hi
  exact⟨v,by simp [execOp,A,Instr.extract,h3],h4⟩
def Ht{k:IntKind}{m n:Int}(V:aE E.N G x (K (rI k) m))(hy:aE E.N G y (K (rI k) n)):bP E O G ⟨dst,.call ⟨.builtin .max,#[x,y],ats⟩,ty,pos,after,g⟩ (K (rI k) (max m n)):=
 .of_pure fun a w S _ _ hf=>by
  have A:a.eval x= .int k m:=eF.1 (V S a hf)
  have D:a.eval y= .int k n:=eF.1 (hy S a hf)
  refine⟨.int k (if n>m then n else m),by simp [execOp,resolve,invoke,builtin,Builtin.max_,Builtin.max2,A,D],eF.2 ?_⟩
  congr 1
  rw [Int.max_def]
  split<;>split<;>omega
def me{k:IntKind}{m n:Int}(V:aE E.N G x (K (rI k) m))(hy:aE E.N G y (K (rI k) n)):bP E O G ⟨dst,.call ⟨.builtin .min,#[x,y],ats⟩,ty,pos,after,g⟩ (K (rI k) (min m n)):=
 .of_pure fun a w S _ _ hf=>by
  have A:a.eval x= .int k m:=eF.1 (V S a hf)
  have D:a.eval y= .int k n:=eF.1 (hy S a hf)
  refine⟨.int k (if n<m then n else m),by simp [execOp,resolve,invoke,builtin,Builtin.min_,Builtin.min2,A,D],eF.2 ?_⟩
  congr 1
  rw [Int.min_def]
  split<;>split<;>omega

def gX(P:Program){α β:Type}(args:α->List Ty)(res:β->Ty)(f:α->Option β):Ty where
 p:=fun S v=> ∃fid cap,v= .func (.func fid) #[] cap/\aj P fid=true/\ ∀x y,f x=some y-> ∀w S' vs,pm S S' ->kp w S' ->xV S' (args x) vs->
  Calls P fid (vs.toArray++cap) w fun e w' => ∃v S'',e= .returned v/\jl sR w S' w' S'' /\kp w' S'' /\(res y).p S'' v
 mono:=fun h ⟨f,cap,e,hc,k⟩=>⟨f,cap,e,hc,fun x y hxy w S' vs hle=>k x y hxy w S' vs (SH.le_trans h hle)⟩
def U4{N:Fr}{P:Program}{f:α->Option β}{fid:FuncId}(hc:aj P fid=true)(hs: ∀x y,f x=some y->dn P fid (args x) (res y)):aE N G (.func fid) (gX P args res f):=fun S a _=>
 ⟨fid,#[],rfl,hc,fun x y h w S' vs _ hsat hv=>by simpa using hs x y h w S' vs hsat hv⟩
def xV.append: ∀{ts us:List Ty} {vs ws:List Value},xV S ts vs->xV S us ws->xV S (ts++us) (vs++ws)
 |[],_,[],_,_,h=>h
 |_::_,_,_::_,_,⟨A,D⟩,h=>⟨A,xV.append D h⟩
def ou{f:α->Option β}{fid:FuncId}{caps:List Operand}{cts:List Ty}(hc:aj E.P fid=true)(hcap:iK E.N G caps cts)(hs: ∀x y,f x=some y->dn E.P fid (args x++cts) (res y)):bP E O G ⟨dst,.makeFunc (.func fid) #[] caps.toArray,ty,pos,after,g⟩ (gX E.P args res f):=
 .of_pure fun a w S _ _ hf=>by
  refine⟨.func (.func fid) #[] (caps.map a.eval).toArray,by simp [execOp,Instr.makeFunc],fid,_,rfl,hc,fun x y h w' S' vs hle hsat hv=>?_⟩
  have hcv:=(hcap.tys hf).mono hle
  simpa using hs x y h w' S' _ hsat (hv.append hcv)
def iE{f:α->Option β}{fo:Operand}{x:α}{y:β}{xs:List Operand}(hfo:aE E.N G fo (gX E.P args res f))(h:f x=some y)(V:iK E.N G xs (args x)):
  bP E O G ⟨dst,.call ⟨.value fo,xs.toArray,ats⟩,ty,pos,after,g⟩ (res y):=fun a w S hS _ hF=>by
 obtain⟨fid,cap,e,hc,hs⟩:=hfo S a hF
 have hr:(execOp a.eval ⟨dst,.call ⟨.value fo,xs.toArray,ats⟩,ty,pos,after,g⟩).run E.P w= .ok (.enter fid ((xs.map a.eval).toArray++cap)) w:=by
  simp [execOp,resolve,e,Deferred.ofValue,invoke,il hc]
 refine⟨fun c h=>(by cases h),?_⟩
 rw [hr]
 exact(hs x y h w S _ (SH.le_refl _) hS (V.tys hF)).mono fun e w' ⟨v,S',he,A,D,h3⟩=>⟨v,he,v,S',rfl,A,D,h3⟩
end
def dn.of{P:Program}{N:Nat}(hf:P.funcs[f]? =some fn)(H:fn.body=some c)(hN:fn.ntmps=N)(hn:Nat.ble ts.length N=true)(h: ∀w0 S0,CG ⟨P,⟨N,[]⟩,sR,w0,S0,none⟩ (bodyPost P fn (Lt ⟨P,⟨N,[]⟩,sR,w0,S0,none⟩ t)) c [] (yv 0 ts)):dn P f ts t:=by
 subst hN
 exact H8 hf H (qE hn) h
def nn{α:Type _}{r:α}(h:(none:Option α)=some r):False:=by cases h
def C0{N:Fr}:aE N G (.const (.slice none 0 0)) (Q (Y none 0 0)):=fun _ _ _=>rfl
def gx:Nat:=2^64
section
variable{E:En}{ty:TypeId}
def KN(l:Option Nat)(cap n:Nat)(h:l=none->n=0): ∃a c,Y l cap n= .slice a n c:=by
 cases l with
 |none=>rw [h rfl];exact⟨none,0,rfl⟩
 |some b=>exact⟨_,cap,rfl⟩
def fh{r:Rp α}{n:Nat}{t:TypeId}(M:E.P.underlying t=some (.slice e))(hm:jR mm r T l cap xs∈O)(V:aE E.N G x (Q (Y l cap n)))(hn:n=xs.length:=by rfl):
  bP E O G ⟨dst,.call ⟨.builtin .len,#[x],#[t]⟩,ty,pos,after,g⟩ (K (rI .i64) (n:Int)):=
 .of_pure fun a w S _ ho hf=>by
  have A:a.eval x=Y l cap n:=V S a hf
  have D:=(ho.mem _ hm).1
  obtain⟨ad,c,h3⟩:=KN l cap n (fun e=>by subst e;obtain⟨_,h4,_⟩:=D;rw [hn];exact h4.1)
  refine⟨.int .i64 n,?_,eF.2 rfl⟩
  simp [execOp,resolve,invoke,builtin,Builtin.len_,g9 M,A,h3,goInt]
end

structure NK(P:Program){α:Type} [DecidableEq α](t:TypeId)(r:Rp α):Prop where
 guard:P.eqGuardType P.depth t=false
 run: ∀(S:SH) (cs ds:List Value) (x y:α) (d:Nat) (w:World),r.rc S cs x->r.rc S ds y->(Op.equalIn (d+20) t (r.val cs) (r.val ds)).run P w= .ok (decide (x=y)) w
section
variable{E:En}{ty:TypeId}
def Ci{P:Program}{t:TypeId}(h:P.eqGuardType P.depth t=false){op:BinOp}{x y:Operand}{u v:Array Value}{w:World}:(eqGuard op t x y (.agg u) (.agg v)).run P w= .ok () w:=by
 unfold eqGuard
 cases op<;>first|rfl|simp [h]
def qY{r:Rp α}(h:r.agg=true)(cs:List Value):r.val cs= .agg cs.toArray:=by unfold Rp.val;rw [bD h]
def Mz [DecidableEq α]{r:Rp α}{m n:α}(he:NK E.P xt r)(V:aE E.N G x (K r m))(hy:aE E.N G y (K r n))(ha:r.agg=true:=by rfl):bP E O G ⟨dst,.binOp .eql xt x y yt,ty,pos,after,g⟩ (K rB (decide (m=n))):=
 .of_pure fun a w S _ _ hf=>by
  obtain⟨cs,A,D⟩:=V S a hf
  obtain⟨ds,h3,h4⟩:=hy S a hf
  refine⟨.bool (decide (m=n)),?_,i6.2 rfl⟩
  have hr:=he.run S cs ds m n 9980 w D h4
  have hg:= @Ci E.P xt he.guard .eql x y cs.toArray ds.toArray w
  rw [qY ha,qY ha]at hr
  simp only [execOp,A,h3,qY ha,pr,hg,ql,binOp,Op.equal,Op.maxDepth]
  rw [show(10000:Nat)=9980+20 from rfl,hr]
  simp
def CX [DecidableEq α]{r:Rp α}{m n:α}(he:NK E.P xt r)(V:aE E.N G x (K r m))(hy:aE E.N G y (K r n))(ha:r.agg=true:=by rfl):bP E O G ⟨dst,.binOp .neq xt x y yt,ty,pos,after,g⟩ (K rB (!decide (m=n))):=
 .of_pure fun a w S _ _ hf=>by
  obtain⟨cs,A,D⟩:=V S a hf
  obtain⟨ds,h3,h4⟩:=hy S a hf
  refine⟨.bool (!decide (m=n)),?_,i6.2 rfl⟩
  have hr:=he.run S cs ds m n 9980 w D h4
  have hg:= @Ci E.P xt he.guard .neq x y cs.toArray ds.toArray w
  rw [qY ha,qY ha]at hr
  simp only [execOp,A,h3,qY ha,pr,hg,ql,binOp,Op.equal,Op.maxDepth]
  rw [show(10000:Nat)=9980+20 from rfl,hr]
  simp
end
end Go.Proofs.YthbdkceckjihgaaGreatDoor

