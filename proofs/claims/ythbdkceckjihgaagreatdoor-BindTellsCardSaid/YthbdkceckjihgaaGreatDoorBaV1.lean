/- cH of this claim: W1, W49, W2, W3, W4, W5, W6, W7, W8, W9, W10, W11. -/
import Derived.WalkKit
import Derived.Orders
import Derived.Shelf.Unicode.CaseTo
import Derived.Shelf.Unicode.DecodeSlow
import Derived.Lone
import Derived.RunT
import Derived.Calls
import Derived.RangeFuncIn
import Derived.TacticsIn
import Derived.OrdersIn
import Derived.LoopIn
import Derived.Laws.AppendOwn
import Derived.Deep.Upon
import Derived.Lib.AppendStr
import Derived.IntWalk
set_option linter.all false
namespace Go.Proofs.YthbdkceckjihgaaGreatDoor
open Go
def eC:= @Option.bind_some
def mO:= @List.getElem?_eq_some_iff
def gP:= @Nat.le_refl
def oj:= @List.mem_cons_of_mem
def oh:= @List.mem_cons_self
def mK:= @run_underlying
def mJ:= @List.mem_cons
def fE:= @if_pos
def kR:= @Nat.eq_of_beq_eq_true
def j6:= @List.length_append
def cS:= @if_neg
def nw:= @List.getElem?_eq_getElem
def mP:= @Nat.le_of_ble_eq_true
def kP:= @Option.some.inj
def kU:= @List.all_eq_true
def lG:= @Bool.and_eq_true
def iZ:= @Nat.le_trans
def iM:= @Nat.zero_le
def jq:= @Nat.lt_or_ge
def o8:= @List.take_append_drop
def m6:= @Result.andThen_ok
def sL:= @Array.getElem?_eq_some_iff
def uX:= @List.eq_nil_of_length_eq_zero
def qu:= @List.mem_of_getElem?
def sK:= @Array.getElem?_replicate
def se:= @List.drop_of_length_le
def mN:= @decide_eq_true
def ol:= @decide_eq_false
def uW:= @List.drop_eq_getElem_cons
def py:= @decide_eq_true_eq
def uV:= @List.getElem?_take_of_lt
def mi:= @Sem.run_bind
def sJ:= @Nat.mul_le_mul_right
def sd:= @List.getElem?_drop
def sb:= @Bool.false_eq_true
def sa:= @List.append_assoc
def tF:= @Stepped.next.injEq
def yI:= @List.getElem?_append_left
def qt:= @Bool.false_or
def r0:= @List.drop_zero
def Bq:= @Array.getD_eq_getD_getElem?
def qr:= @Nat.zero_add
def tB:= @Nat.min_eq_left
def px:= @Prod.mk.inj
def rZ:= @getD_set_true
def uT:= @Bool.not_eq_true
def Ae:= @List.take_of_length_le
def tA:= @List.drop_drop
def sI:= @Bool.not_true
def wv:= @List.length_take
def yH:= @Array.length_toList
def nu:= @if_false
def tz:= @List.map_cons
def Bp:= @MapKept.run_getObj_map
def w9:= @List.any_eq_true
def rY:= @Nat.add_mul
def qx:= @Nat.blt_eq
def CR:= @decide_eq_false_iff_not
def Bo:= @Bool.and_eq_true_iff
def yG:= @IntKind.wrap_i64
def wu:= @List.any_cons
def w8:= @List.take_take
def Ad:= @Bool.not_eq_true'
def yF:= @List.nil_append
def CQ:= @List.singleton_append
def CP:= @List.length_singleton
def Ac:= @List.length_drop
def Ab:= @decide_eq_decide
def Aa:= @List.length_cons
def yE:= @heap_alloc_new
def CO:= @List.mem_append_left
def sH:= @mem_ready
def wt:= @getD_set_ne
def z8:= @List.drop_take
def Ft:= @List.getElem?_eq_none
def CM:= @Option.some.injEq
def CL:= @List.size_toArray
def qw:= @if_true
def CK:= @Int.toNat_natCast
def IF:= @List.take_append_of_le_length
def CI:= @List.length_set
def GP:= @List.contains_iff_mem
def xf:= @Bool.or_eq_true
def y4:= @List.getElem?_map
def ot:= @Iff.rfl
def GT:= @List.take_succ_eq_append_getElem
def vT:= @Nat.le_of_eq
def vS:= @Sem.runT_fst
def xe:= @List.all_cons
def y3:= @Bool.eq_iff_iff
def Eo:= @Array.toList_replicate
def Em:= @Option.map_eq_some_iff
def El:= @MapKept.run_setObj_map
def Bu:= @bne_self_eq_false
def Bt:= @List.ext_getElem?
def Ek:= @Array.getElem?_toList
def Ej:= @List.countP_replicate
def xd:= @Sem.run_pure
def Ei:= @Bool.or_eq_false_iff
def Eh:= @List.drop_eq_nil_iff
def Bs:= @List.cons_append
def Eg:= @MapKept.run_checkKey
def Br:= @List.take_length
def xc:= @Nat.mul_one

def yD:Obj->Obj->Prop
 | .cells c E fr,o' => ∃ac:List Value,o' = .cells (c.toList++ac).toArray E fr
 |o,o' =>o' =o
variable{o:Oper}
def pg(o:Obj):yD o o:=by
 cases o<;>first|rfl|exact⟨[],by simp⟩
variable{c:Code}{cells:List Value}{ac:Nat}{fr:Nat×Nat}{k:Nat}{o' :Obj}
def zl{o o'' :Obj}(h:yD o o')(k:yD o' o''):yD o o'' :=by
 cases o with
 |cells c E fr=>
  obtain⟨ac,rfl⟩:=h
  obtain⟨d',rfl⟩:=k
  exact⟨ac++d',by simp⟩
 |_=>cases h;exact k
variable{off:Nat}
def xO{c:Array Value}{E:TypeId}(h:yD (.cells c E fr) o'){n:Nat}(hl:((c.toList.drop off).take n).length=n):
  ∃c',o' = .cells c' E fr/\(c'.toList.drop off).take n=(c.toList.drop off).take n:=by
 obtain⟨ac,rfl⟩:=h
 refine⟨_,rfl,?_⟩
 by_cases hn:n=0
 ·subst hn;simp
 simp only [wv,Ac]at hl
 rw [List.drop_append_of_le_length (by omega),IF (by simp only [Ac];omega)]
abbrev SH:=Nat->Option Obj
def lu(S S' :SH):Prop:= ∀b o,S b=some o-> ∃o',S' b=some o' /\yD o o'
variable{S:SH}
def SH.le_refl(S:SH):lu S S:=fun _ o h=>⟨o,h,pg o⟩
variable{S' S'' :SH}{b:Bool}{e:TypeId}
def SH.le_trans(h:lu S S')(k:lu S' S''):lu S S'' :=fun b o e=>let⟨o',H,J⟩:=h b o e;let⟨o'',h3,h4⟩:=k b o' H;⟨o'',h3,zl J h4⟩
structure Ty where
 p:SH->Value->Prop
 mono: ∀{S S' :SH} {v:Value},lu S S' ->p S v->p S' v

structure Rp(α:Type) where
 sz:Nat
 agg:Bool
 rc:SH->List Value->α->Prop
 mono: ∀{S S' :SH} {cs:List Value} {x:α},lu S S' ->rc S cs x->rc S' cs x
 len: ∀{S:SH} {cs:List Value} {x:α},rc S cs x->cs.length=sz
 one: ∀{S:SH} {cs:List Value} {x:α},rc S cs x-> ∀c∈cs,c.oneCell' =true
 sc:agg=false->sz=1

def Rp.val{α:Type}(r:Rp α)(cs:List Value):Value:=if r.agg then .agg cs.toArray else cs.headD undef

def V{α:Type}(r:Rp α)(x:α):Ty where
 p:=fun S v=> ∃cs,v=r.val cs/\r.rc S cs x
 mono:=fun h ⟨cs,e,k⟩=>⟨cs,e,r.mono h k⟩

def oX:Ty where
 p:=fun _ _=>True
 mono:=fun _ _=>trivial

def tV(u:Value):Ty where
 p:=fun _ v=>v=u
 mono:=fun _ h=>h

def rI(k:IntKind):Rp Int where
 sz:=1
 agg:=false
 rc:=fun _ cs x=>cs=[.int k x]
 mono:=fun _ h=>h
 len:=fun h=>by rw [h];rfl
 one:=fun h c hc=>by subst h;simp at hc;subst hc;rfl
 sc:=fun _=>rfl

def rB:Rp Bool where
 sz:=1
 agg:=false
 rc:=fun _ cs x=>cs=[.bool x]
 mono:=fun _ h=>h
 len:=fun h=>by rw [h];rfl
 one:=fun h c hc=>by subst h;simp at hc;subst hc;rfl
 sc:=fun _=>rfl

abbrev dN:=List UInt8
def rS:Rp dN where
 sz:=1
 agg:=false
 rc:=fun _ cs x=>cs=[.string ⟨x.toArray⟩]
 mono:=fun _ h=>h
 len:=fun h=>by rw [h];rfl
 one:=fun h c hc=>by subst h;simp at hc;subst hc;rfl
 sc:=fun _=>rfl

variable{cs:List Value}{v:Value}
def dK{k:IntKind}{n:Int}:(V (rI k) n).p S v↔v= .int k n:=by
 constructor
 ·rintro⟨cs,rfl,h⟩;have h' :cs=[.int k n]:=h;subst h';rfl
 ·rintro rfl;exact⟨[.int k n],rfl,rfl⟩
def fZ:(V rB b).p S v↔v= .bool b:=by
 constructor
 ·rintro⟨cs,rfl,h⟩;have h' :cs=[.bool b]:=h;subst h';rfl
 ·rintro rfl;exact⟨[.bool b],rfl,rfl⟩
variable{α:Type}{s:Sem α}
def mS{s:dN}:(V rS s).p S v↔v= .string ⟨s.toArray⟩:=by
 constructor
 ·rintro⟨cs,rfl,h⟩;have h' :cs=[.string ⟨s.toArray⟩]:=h;subst h';rfl
 ·rintro rfl;exact⟨[.string ⟨s.toArray⟩],rfl,rfl⟩

def mL{α:Type}(r:Rp α)(S:SH):List Value->List α->Prop
 |cs,[]=>cs=[]
 |cs,x::xs=> ∃a b,cs=a++b/\r.rc S a x/\mL r S b xs
variable{a:Act}{xs:List α}
def mv{α:Type}{r:Rp α}{S S' :SH}(h:lu S S'): ∀{xs:List α} {cs:List Value},mL r S cs xs->mL r S' cs xs
 |[],_,k=>k
 |_::_,_,⟨a,b,e,H,J⟩=>⟨a,b,e,r.mono h H,mv h J⟩
variable{x:Operand}
def gX{α:Type}{r:Rp α}{S:SH}: ∀{xs:List α} {cs:List Value},mL r S cs xs->cs.length=xs.length*r.sz
 |[],_,k=>by rw [show _=_ from k];simp
 |x::xs,_,⟨a,b,e,H,J⟩=>by rw [e,j6,r.len H,gX J,Aa,rY];omega
def ue{α:Type}{r:Rp α}{S:SH}: ∀{xs:List α} {cs:List Value},mL r S cs xs-> ∀c∈cs,c.oneCell' =true
 |[],_,k,c,hc=>by rw [show _=_ from k]at hc;cases hc
 |x::xs,_,⟨a,b,e,H,J⟩,c,hc=>by
  rw [e]at hc
  rcases List.mem_append.1 hc with h|h
  ·exact r.one H c h
  ·exact ue J c h
variable{ys:List α}
def nI{α:Type}{r:Rp α}{S:SH}: ∀{xs ys:List α} {cs ds:List Value},mL r S cs xs->mL r S ds ys->mL r S (cs++ds) (xs++ys)
 |[],_,_,_,k,h=>by rw [show _=_ from k];exact h
 |_::_,_,_,_,⟨a,b,e,H,J⟩,h=>⟨a,_,by rw [e,sa],H,nI J h⟩
def kI{α:Type}{r:Rp α}{S:SH}: ∀{xs ys:List α} {cs:List Value},mL r S cs (xs++ys)->
  mL r S (cs.take (xs.length*r.sz)) xs/\mL r S (cs.drop (xs.length*r.sz)) ys
 |[],_,_,k=>by simp [mL];exact k
 |x::xs,ys,cs,⟨a,b,e,H,J⟩=>by
  have hl:=r.len H
  have ih:=kI J
  have e1:(x::xs).length*r.sz=a.length+xs.length*r.sz:=by rw [hl,Aa,rY];omega
  rw [e,e1,List.take_length_add_append,List.drop_length_add_append]
  exact⟨⟨a,_,rfl,H,ih.1⟩,ih.2⟩
def Dk{r:Rp α}{x:α}:mL r S cs [x]↔r.rc S cs x:=by
 constructor
 ·rintro⟨a,b,rfl,h,D⟩
  rw [show b=[]from D,List.append_nil];exact h
 ·intro h;exact⟨cs,[],by simp,h,rfl⟩
variable{i:Nat}
def ug{r:Rp α}(h:mL r S cs xs){x:α}(A:xs[i]? =some x):
  r.rc S ((cs.drop (i*r.sz)).take r.sz) x:=by
 have hi:i<xs.length:=(mO.1 A).1
 have e:xs=xs.take i++(x::xs.drop (i+1)):=by
  have:=mO.1 A
  rw [<-this.2,<-uW hi,o8]
 have hl:(xs.take i).length=i:=by simp;omega
 rw [e]at h
 have J:=(kI h).2
 rw [hl]at J
 obtain⟨a,b,e2,h3,_⟩:=J
 rw [e2,<-r.len h3,List.take_left]
 exact h3

def zb{α:Type}(r:Rp α)(S:SH)(a:Option Addr)(xs:List α):Prop:=
 xs=[]\/ ∃b off c E fr,a=some ⟨b,off,none⟩/\S b=some (.cells c E fr)/\mL r S ((c.toList.drop off).take (xs.length*r.sz)) xs
def dz{α:Type}(r:Rp α):Rp (List α) where
 sz:=1
 agg:=false
 rc:=fun S cs xs=> ∃a cap,cs=[.slice a xs.length cap]/\xs.length<=cap/\cap<=maxLen/\zb r S a xs
 mono:=fun h ⟨a,cap,e,H,J,h3⟩=>⟨a,cap,e,H,J,h3.imp id fun⟨b,off,c,E,fr,e1,e2,e3⟩=>by
  obtain⟨o',h4,h5⟩:=h _ _ e2
  obtain⟨c',rfl,h6⟩:=xO h5 (gX e3)
  exact⟨b,off,c',E,fr,e1,h4,by rw [h6];exact mv h e3⟩⟩
 len:=fun⟨a,cap,e,_⟩=>by rw [e];rfl
 one:=fun⟨a,cap,e,_⟩ c hc=>by rw [e]at hc;simp at hc;subst hc;rfl
 sc:=fun _=>rfl
variable{cap:Nat}
def ik{r:Rp α}:(V (dz r) xs).p S v↔ ∃a cap,v= .slice a xs.length cap/\xs.length<=cap/\cap<=maxLen/\zb r S a xs:=by
 constructor
 ·rintro⟨cs,rfl,a,cap,rfl,h⟩;exact⟨a,cap,rfl,h⟩
 ·rintro⟨a,cap,rfl,h⟩;exact⟨_,rfl,a,cap,rfl,h⟩
def tQ{r:Rp α}:(V (dz r) []).p S (.slice none 0 0):=ik.2 ⟨none,0,rfl,gP _,iM _,.inl rfl⟩

def bb{α:Type}(r:Rp α)(x:α):Ty where
 p:=fun S v=> ∃b off c E fr,v= .pointer (some ⟨b,off,none⟩)/\S b=some (.cells c E fr)/\r.rc S ((c.toList.drop off).take r.sz) x
 mono:=fun h ⟨b,off,c,E,fr,e1,e2,e3⟩=>by
  obtain⟨o',h4,h5⟩:=h _ _ e2
  obtain⟨c',rfl,h6⟩:=xO h5 (r.len e3)
  exact⟨b,off,c',E,fr,e1,h4,by rw [h6];exact r.mono h e3⟩

def glob:List (Nat×List Value):=[(0,[.string ⟨([98,111,111,108]:List UInt8).toArray⟩,.int .i64 (1),.string ⟨([105,110,116]:List UInt8).toArray⟩,.int .i64 (2),.string ⟨([116,101,120,116]:List UInt8).toArray⟩,.int .i64 (3)]),(1,[.string ⟨([83,69,76,69,67,84]:List UInt8).toArray⟩,.string ⟨([68,73,83,84,73,78,67,84]:List UInt8).toArray⟩,.string ⟨([70,82,79,77]:List UInt8).toArray⟩,.string ⟨([76,69,70,84]:List UInt8).toArray⟩,.string ⟨([74,79,73,78]:List UInt8).toArray⟩,.string ⟨([79,78]:List UInt8).toArray⟩,.string ⟨([87,72,69,82,69]:List UInt8).toArray⟩,.string ⟨([71,82,79,85,80]:List UInt8).toArray⟩,.string ⟨([66,89]:List UInt8).toArray⟩,.string ⟨([72,65,86,73,78,71]:List UInt8).toArray⟩,.string ⟨([85,78,73,79,78]:List UInt8).toArray⟩,.string ⟨([65,76,76]:List UInt8).toArray⟩,.string ⟨([79,82,68,69,82]:List UInt8).toArray⟩,.string ⟨([76,73,77,73,84]:List UInt8).toArray⟩,.string ⟨([65,83,67]:List UInt8).toArray⟩,.string ⟨([68,69,83,67]:List UInt8).toArray⟩,.string ⟨([65,83]:List UInt8).toArray⟩,.string ⟨([65,78,68]:List UInt8).toArray⟩,.string ⟨([79,82]:List UInt8).toArray⟩,.string ⟨([78,79,84]:List UInt8).toArray⟩,.string ⟨([73,83]:List UInt8).toArray⟩,.string ⟨([78,85,76,76]:List UInt8).toArray⟩,.string ⟨([84,82,85,69]:List UInt8).toArray⟩,.string ⟨([70,65,76,83,69]:List UInt8).toArray⟩,.string ⟨([67,79,85,78,84]:List UInt8).toArray⟩,.string ⟨([83,85,77]:List UInt8).toArray⟩,.string ⟨([77,73,78]:List UInt8).toArray⟩,.string ⟨([77,65,88]:List UInt8).toArray⟩])]
def FI(w:World):Prop:=Lib.CaseVar 2 Lib.caseA w/\Lib.Utf8Tabs 4 5 w
structure hY(w:World)(S:SH):Prop where
 at_: ∀b o,S b=some o-> ∃o',w.heap[b]? =some o' /\yD o o'
 gl: ∀p∈glob,∃c T fr,S p.1=some (.cells c T fr)/\c.toList.take p.2.length=p.2
 tb: ∀w' :World,(∀b o,S b=some o-> ∃o',w'.heap[b]? =some o' /\yD o o')->FI w'
instance{w:World}{S:SH}:CoeFun (hY w S) (fun _=> ∀b o,S b=some o-> ∃o',w.heap[b]? =some o' /\yD o o'):=⟨hY.at_⟩
variable{w:World}
def hY.tab(h:hY w S):FI w:=h.tb w h.at_
def hY.lt(h:hY w S){b:Nat}{o:Obj}(k:S b=some o):b<w.heap.size:=let⟨_,H,_⟩:=h b o k;(sL.1 H).1
def hY.part(h:hY w S){b:Nat}{c:Array Value}{E:TypeId}(k:S b=some (.cells c E fr)){n:Nat}(hl:((c.toList.drop off).take n).length=n):
  ∃c',w.heap[b]? =some (.cells c' E fr)/\(c'.toList.drop off).take n=(c.toList.drop off).take n:=by
 obtain⟨o',H,J⟩:=h b _ k
 obtain⟨c',rfl,h3⟩:=xO J hl
 exact⟨c',H,h3⟩
variable{w' :World}
def hY.same(h:hY w S)(k: ∀b o,S b=some o->w'.heap[b]? =w.heap[b]?):hY w' S:=⟨fun b o e=>by rw [k b o e];exact h b o e,h.gl,h.tb⟩

def oE:Nat->Prop:=fun _=>False
structure gj(B:Nat->Prop)(w:World)(S:SH)(w' :World)(S' :SH):Prop where
 os:w'.os=w.os
 tape:w'.tape=w.tape
 output:w'.output=w.output
 drawn:w.drawn<=w'.drawn
 size:w.heap.size<=w'.heap.size
 heap: ∀k,k<w.heap.size-> ¬B k->w'.heap[k]? =w.heap[k]?
 keep:lu S S'
 old: ∀k,k<w.heap.size-> ¬B k->S' k=S k
def gj.refl(B:Nat->Prop)(w:World)(S:SH):gj B w S w S:=⟨rfl,rfl,rfl,gP _,gP _,fun _ _ _=>rfl,SH.le_refl _,fun _ _ _=>rfl⟩
variable{w'' :World}
def gj.trans{B:Nat->Prop}(h:gj B w S w' S')(k:gj B w' S' w'' S''):gj B w S w'' S'' :=
 ⟨k.os.trans h.os,k.tape.trans h.tape,k.output.trans h.output,iZ h.drawn k.drawn,iZ h.size k.size,
  fun i hi D=>(k.heap i (Nat.lt_of_lt_of_le hi h.size) D).trans (h.heap i hi D),SH.le_trans h.keep k.keep,
  fun i hi D=>(k.old i (Nat.lt_of_lt_of_le hi h.size) D).trans (h.old i hi D)⟩
variable{C:Nat->Prop}
def gj.step{B:Nat->Prop}(h:gj B w S w' S')(k:gj C w' S' w'' S'')(hC: ∀b,C b->w.heap.size<=b\/B b):gj B w S w'' S'' :=
 ⟨k.os.trans h.os,k.tape.trans h.tape,k.output.trans h.output,iZ h.drawn k.drawn,iZ h.size k.size,
  fun i hi D=>(k.heap i (Nat.lt_of_lt_of_le hi h.size) (fun hc=>(hC i hc).elim (fun h=>by omega) D)).trans (h.heap i hi D),SH.le_trans h.keep k.keep,
  fun i hi D=>(k.old i (Nat.lt_of_lt_of_le hi h.size) (fun hc=>(hC i hc).elim (fun h=>by omega) D)).trans (h.old i hi D)⟩
def gj.more{B:Nat->Prop}(h:gj B w S w' S')(k: ∀b,B b->C b):gj C w S w' S' :=
 ⟨h.os,h.tape,h.output,h.drawn,h.size,fun i hi D=>h.heap i hi (fun h=>D (k i h)),h.keep,fun i hi D=>h.old i hi (fun h=>D (k i h))⟩
def gj.step0{B:Nat->Prop}(h:gj B w S w' S')(k:gj oE w' S' w'' S''):gj B w S w'' S'' :=h.step k fun _ D=>D.elim

structure OE where
 fp:Nat->Prop
 p:World->SH->Prop
 here: ∀{w S},p w S-> ∀k,fp k->k<w.heap.size
 kept: ∀{C w w' S S'},p w S->gj C w S w' S' ->(∀k,fp k-> ¬C k)->p w' S'
def OE.holds(e:OE)(base:Nat)(B:Nat->Prop)(w:World)(S:SH):Prop:=e.p w S/\ ∀k,e.fp k->base<=k\/B k
def OE.apart(e f:OE):Prop:= ∀b,e.fp b-> ¬f.fp b
def cr(base:Nat)(B:Nat->Prop)(w:World)(S:SH):List OE->Prop
 |[]=>True
 |e::O=>e.holds base B w S/\(∀f∈O,e.apart f)/\cr base B w S O
def Bl{e:OE}{base:Nat}{B:Nat->Prop}(h:e.holds base B w S)(k:gj C w S w' S')(hC: ∀b,e.fp b-> ¬C b):e.holds base B w' S' :=⟨e.kept h.1 k hC,h.2⟩
variable{O:List OE}{f:FuncId}
def cr.ext{base:Nat}{B:Nat->Prop}(k:gj C w S w' S'): ∀{O:List OE},cr base B w S O->(∀e∈O,∀b,e.fp b-> ¬C b)->cr base B w' S' O
 |[],_,_=>trivial
 |e::_,⟨H,J,h3⟩,hC=>⟨Bl H k (hC e (oh ..)),J,cr.ext k h3 fun f hf=>hC f (oj _ hf)⟩
def cr.ext0{base:Nat}{B:Nat->Prop}(k:gj oE w S w' S')(h:cr base B w S O):cr base B w' S' O:=
 h.ext k fun _ _ _ _ D=>D
def cr.mem{base:Nat}{B:Nat->Prop}: ∀{O:List OE},cr base B w S O-> ∀e∈O,e.holds base B w S
 |_::_,⟨H,_,_⟩,_,.head _=>H
 |_::_,⟨_,_,h3⟩,_,.tail _ hm=>cr.mem h3 _ hm

abbrev io:=List (Nat×Ty)
def look:io->Nat->Option Ty
 |[],_=>none
 |(k,t)::G,j=>bif Nat.beq k j then some t else look G j
structure Fr where
 n:Nat
 ds:List Deferred
structure cH(N:Fr)(S:SH)(a:Act)(G:io):Prop where
 size:a.tmps.size=N.n
 defers:a.defers=N.ds
 at_: ∀k t,look G k=some t->t.p S (a.tmps.getD k undef)
variable{G:io}{j:Nat}{t:Ty}
def cH.mono{N:Fr}(h:cH N S a G)(k:lu S S'):cH N S' a G:=⟨h.size,h.defers,fun j t e=>t.mono k (h.at_ j t e)⟩
def cH.sub{N:Fr}{G' :io}(h:cH N S a G)(k: ∀j t,look G' j=some t->look G j=some t):cH N S a G' :=⟨h.size,h.defers,fun j t e=>h.at_ j t (k j t e)⟩
variable{u:OE}
def cH.put{N:Fr}(h:cH N S a G)(hd:Nat.blt ac N.n=true)(hv:t.p S v):cH N S (a.put (some ac) v) ((ac,t)::G):=by
 have hd' :ac<N.n:=by simpa [qx] using hd
 refine⟨by simp [Act.put,h.size],h.defers,fun j u e=>?_⟩
 unfold look at e
 by_cases hj:ac=j
 ·subst hj
  have e' :t=u:=by simpa using e
  rw [e']at hv
  simp [Act.put,Bq,h.size,hd',hv]
 ·have D:Nat.beq ac j=false:=by cases hh:Nat.beq ac j with
   |false=>rfl
   |true=>exact absurd (kR hh) hj
  rw [D]at e
  have:=h.at_ j u e
  simpa [Act.put,Bq,Array.getElem?_setIfInBounds,hj] using this
def FK:io->io->Prop
 |[],_=>True
 |(k,t)::G',G=>look G k=some t/\FK G' G
def y9: ∀{G' G:io},FK G' G-> ∀j t,look G' j=some t->look G j=some t
 |(k,t)::G',G,⟨H,J⟩,j,u,e=>by
  unfold look at e
  by_cases D:Nat.beq k j=true
  ·rw [D]at e
   have:=kR D
   subst this
   simp only [cond_true]at e
   rw [<-e];exact H
  ·rw [uT]at D
   rw [D]at e
   exact y9 J j u e

def ax(N:Fr)(G:io)(x:Operand)(t:Ty):Prop:= ∀S a,cH N S a G->t.p S (a.eval x)
def Y{N:Fr}(h:look G k=some t):ax N G (.tmp k) t:=fun _ _ hF=>hF.at_ k t h
def hI{N:Fr}{k:IntKind}{n:Int}:ax N G (.const (.int k n)) (V (rI k) n):=fun _ _ _=>dK.2 rfl
def hB{N:Fr}:ax N G (.const (.bool b)) (V rB b):=fun _ _ _=>fZ.2 rfl
def hS{N:Fr}{s:Array UInt8}:ax N G (.const (.string ⟨s⟩)) (V rS s.toList):=fun _ _ _=>mS.2 rfl
def Nb{N:Fr}{r:Rp α}:ax N G (.const (.slice none 0 0)) (V (dz r) []):=fun _ _ _=>tQ
def hV{N:Fr}:ax N G (.const v) (tV v):=fun _ _ _=>rfl

variable{R:Ending->World->Prop}{args:α->List Ty}{bytes:Nat}{done:Array Bool}{es:Array Event}{g:Option (Nat×Bool)}{gs:Nat}{l:Option Nat}{m m' :Machine}{ops:Array Oper}{q:Bool}{rest:List Oper}
section
variable{P:Program}
def wOf{α:Type}:Result α->World
 | .ok _ w=>w
 | .halt _ w=>w
def AP(w:World)(a:Addr)(n:Nat):(w.freeze a n).drawn=w.drawn:=by unfold World.freeze;split<;>rfl
def wC{at_:Addr}{u:TypeId}{k:Addr}{x:Bool}{r:World×List Addr}(h:w.viewStore P at_ u k v x= .ok r):r.1.drawn=w.drawn:=by
 unfold World.viewStore at h
 simp only [bind,Except.bind,pure,Except.pure,throw,throwThe,MonadExceptOf.throw]at h
 repeat' (split at h)
 all_goals first
  |(cases h;done)
  |(cases h;rfl)
def yg{a:Addr}{x:Bool}{r:World×List Addr}(h:w.farStore P a v x= .ok r):r.1.drawn=w.drawn:=by
 unfold World.farStore at h
 split at h
 ·split at h
  ·rename_i J;cases h;exact wC J
  ·cases h
 ·cases h
def vL{α:Type}: ∀(a:Ask α) (w:World),w.drawn<=(w.ask a).2.drawn
 | .done a,w=>gP _
 | .ask what range k,w=>by
  unfold World.ask
  simp only
  split
  ·exact vL (k 0) w
  ·exact iZ (Nat.le_succ _) (vL (k ((Question.extern what range).cut (w.tape w.drawn (Question.extern what range)))) {w with drawn:=w.drawn+1})
def FJ(w:World)(c:Sys):w.drawn<=(w.sys c).2.drawn:=by
 unfold World.sys
 have h:=vL (Kernel.perform c w.os) w
 split
 ·exact gP _
 ·rename_i J
  rw [J]at h
  exact h
def eS{α:Type}: ∀(s:Sem α) (w:World),w.drawn<=(wOf (s.run P w)).drawn
 | .pure a,w=>gP _
 | .load m a k,w=>by
  unfold Sem.run
  split
  ·exact eS _ w
  ·split
   ·exact eS _ w
   ·exact gP _
 | .store m a v k,w=>by
  have key:w.drawn<=(wOf (match w.cell? a with
   |some _=>if w.frozen? a then .halt (.unsupported (.unsafePointer "a write to bytes that a string shares")) w else k.run P (w.setCell a v)
   |none=>match w.farStore P a v (m== .atomic)with
    | .ok (w,_)=>k.run P w
    | .error h=> .halt h w)).drawn:=by
   split
   ·split
    ·exact gP _
    ·exact eS k (w.setCell a v)
   ·split
    ·rename_i w' l h
     have:=eS k w'
     rw [show w'.drawn=w.drawn from yg h]at this
     exact this
    ·exact gP _
  cases v<;>first|exact gP _|(simp only [Sem.run];exact key)
 | .new o k,w=>eS (k w.heap.size) {w with heap:=w.heap.push o}
 | .shape r k,w=>eS (k (w.shape? r)) w
 | .freeze a n k,w=>by
  have:=eS k (w.freeze a n)
  rw [AP]at this
  exact this
 | .frozen a k,w=>eS (k (w.frozen? a)) w
 | .getObj r k,w=>by
  unfold Sem.run
  split
  ·exact gP _
  ·exact eS _ w
  ·exact gP _
 | .setObj r o k,w=>by
  unfold Sem.run
  split
  ·exact gP _
  ·exact eS k {w with heap:=w.heap.setIfInBounds r o}
  ·exact gP _
 | .choose q k,w=>by
  unfold Sem.run
  split
  ·exact eS (k 0) w
  ·exact iZ (Nat.le_succ _) (eS (k (q.cut (w.tape w.drawn q))) {w with drawn:=w.drawn+1})
 | .sys c k,w=>by
  exact iZ (FJ w c) (eS (k (w.sys c).1) (w.sys c).2)
 | .program k,w=>eS (k P) w
 | .mark m k,w=>eS k w
 | .halt h,w=>gP _
def cq{x:α}(h:s.run P w= .ok x w'):w.drawn<=w'.drawn:=by
 have:=eS (P:=P) s w
 rw [h]at this
 exact this
def jA{x:Halt}(h:s.run P w= .halt x w'):w.drawn<=w'.drawn:=by
 have:=eS (P:=P) s w
 rw [h]at this
 exact this
def F4{x:α}{es' :Array Event}(h:s.runT P w es=(.ok x w',es')):w.drawn<=w'.drawn:=
 cq (P:=P) (s:=s) (x:=x) (by rw [<-vS P s w es,h])
def Cd{x:Halt}{es' :Array Event}(h:s.runT P w es=(.halt x w',es')):w.drawn<=w'.drawn:=
 jA (P:=P) (s:=s) (x:=x) (by rw [<-vS P s w es,h])
def wB{rest:Rest}{cases:Array CommCase}(h:waitingAt rest cases w=some w'):w'.drawn=w.drawn:=by
 unfold waitingAt at h
 repeat' (split at h)
 all_goals (cases h;try rfl)
def uI(rest:Rest)(gs:Array Goroutine)(i:Nat)(g:Goroutine)(cases:Array CommCase)(blocking:Bool)
  (shape:CommShape)(w:World)(m' :Machine)(h:(communicate P rest gs i g cases blocking shape w).1= .next m'):w.drawn<=m'.world.drawn:=by
 unfold communicate at h
 simp only []at h
 repeat' first
  |(simp at h;done)
  |(simp only [tF]at h;subst h;(try dsimp only);exact gP _)
  |(simp only [tF]at h;subst h;(try dsimp only);exact cq (by assumption))
  |(simp only [tF]at h;subst h;(try dsimp only);exact vT (wB (by assumption)).symm)
  |(simp only [tF]at h;subst h;(try dsimp only);exact iZ (cq (by assumption)) (cq (by assumption)))
  |(simp only [tF]at h;subst h;(try dsimp only);exact iZ (cq (by assumption)) (jA (by assumption)))
  |split at h
def xS(gs:Array Goroutine)(rest:Rest)(w:World)(m' :Machine)
  (h:Go.look P gs rest w= .next m'):w.drawn<=m'.world.drawn:=by
 unfold Go.look at h
 simp only []at h
 repeat' first
  |(simp at h;done)
  |(simp only [tF]at h;subst h;(try dsimp only);exact cq (by assumption))
  |split at h
def w2(ac:Nat):GStep->Prop
 | .go _ w _=>ac<=w.drawn
 | .comm _ _ _ _ w _=>ac<=w.drawn
 | .spawn _ _ w _=>ac<=w.drawn
 | .count _ w _=>ac<=w.drawn
 | .timer _ _ w _=>ac<=w.drawn
 | .alone _ _ w _=>ac<=w.drawn
 | .newcoro _ _ _ w _=>ac<=w.drawn
 | .coroswitch _ _ _ w _=>ac<=w.drawn
 | .collect _ w _=>ac<=w.drawn
 | .watch _ w _=>ac<=w.drawn
 | .ended _ _ _=>True
def lN{s:GStep}(h:w2 ac s):w2 ac (s.after es):=by cases s<;>exact h
def nN{e:Nat}{s:GStep}(h:w2 ac s)(k:e<=ac):w2 e s:=by
 cases s<;>first|exact iZ k h|trivial
def DP(ac:Nat)(w:World)(fd:Nat)(text:ByteArray)(o:Outcome):w2 ac (endWith w fd text o):=by
 unfold endWith
 repeat' split
 all_goals trivial
def H9(fr:Frame)(ep:List ByteArray)(m:String)(whole:Bool)(w:World):w2 w.drawn (dieOf fr ep m whole w):=gP _
def oP(fr:Frame)(m:String)(w:World):w2 w.drawn (endThrow fr m w):=gP _
def q5(fr:Frame)(v:Value)(w:World):w2 w.drawn (endPrinting P fr v w):=by
 unfold endPrinting
 simp only []
 split
 ·exact gP _
 ·trivial
def wl(fr:Frame)(callers:List Frame)(dying:Option Dying)(m:String)(w:World):w2 w.drawn (endFatal P fr callers dying m w):=by
 unfold endFatal
 simp only []
 split
 ·exact nN (H9 _ _ _ _ _) (cq (by assumption))
 ·trivial
 ·trivial
def CV(fr:Frame)(ac:Dying)(f:Fatal)(w:World):w2 w.drawn (writeOn P fr ac f w):=by
 unfold writeOn
 simp only []
 split
 ·trivial
 ·split
  ·exact F4 (by assumption)
  ·exact Cd (by assumption)
  ·trivial
  ·trivial
def Mm(fr:Frame)(ac:Dying)(w:World):w2 w.drawn (die P fr ac w):=by
 unfold die
 simp only []
 split
 ·exact CV _ _ _ _
 ·split
  ·split
   ·exact gP _
   ·exact DP _ _ _ _ _
  ·split
   ·exact gP _
   ·split
    ·exact cq (by assumption)
    ·trivial
   ·apply lN
    split
    ·exact cq (P:=P) (by rw [<-vS];assumption)
    ·exact cq (P:=P) (by rw [<-vS];assumption)
    ·trivial
    ·exact nN (q5 _ _ _) (jA (P:=P) (by rw [<-vS];assumption))
    ·trivial
   ·trivial
def lM{x:α}(h:(s.runT P w es).1= .ok x w'):w.drawn<=w'.drawn:=cq (P:=P) (s:=s) (x:=x) (by rw [<-vS P s w es,h])
def oG{x:Halt}(h:(s.runT P w es).1= .halt x w'):w.drawn<=w'.drawn:=jA (P:=P) (s:=s) (x:=x) (by rw [<-vS P s w es,h])
def q6(main:Bool)(fr:Frame)(callers:List Frame)(dying:Option Dying)(v:Value)(w:World):w2 w.drawn (doReturn P main fr callers dying v w):=by
 unfold doReturn
 simp only []
 repeat' split
 all_goals first|exact gP _|trivial
def AL{c:Prop} [Decidable c]{a b:GStep}(ha:w2 ac a)(D:w2 ac b):w2 ac (if c then a else b):=by split<;>assumption
def wP(fr:Frame)(callers:List Frame)(dying:Option Dying)(ac:Deferred)(w:World):w2 w.drawn (callDeferred P fr callers dying ac w):=by
 unfold callDeferred
 simp only []
 refine AL trivial (lN ?_)
 split
 all_goals first
  |exact lM (by assumption)
  |exact oG (by assumption)
  |trivial
  |exact nN (wl _ _ _ _ _) (oG (by assumption))
  |exact nN (oP _ _ _) (oG (by assumption))
  |(split<;>exact lM (by assumption))
def FB(main:Bool)(fr:Frame)(callers:List Frame)(dying:Option Dying)(w:World):w2 w.drawn (unwind P main fr callers dying w):=by
 unfold unwind
 simp only []
 split
 ·apply lN
  split
  ·exact lM (by assumption)
  ·trivial
 ·exact wP _ _ _ _ _
 ·split
  ·trivial
  ·split
   ·trivial
   ·split
    ·exact gP _
    ·split
     ·split
      ·exact gP _
      ·split
       ·exact cq (by assumption)
       ·trivial
       ·trivial
     ·split
      ·exact q5 _ _ _
      ·trivial
  ·split
   ·exact q6 _ _ _ _ _ _
   ·apply lN
    split
    ·exact nN (q6 _ _ _ _ _ _) (lM (by assumption))
    ·trivial
    ·trivial
def H4(fr:Frame)(callers:List Frame)(dying:Option Dying)(g:Nat)(w:World):w2 w.drawn (early P fr callers dying g w):=by
 have hn: ∀w1:World,w.drawn<=w1.drawn->w2 w.drawn (match w1.heap[g]? with
   |some (.pending c elem)=> .go {frame:=fr,callers,status:= .running,dying} {w1 with heap:=w1.heap.setIfInBounds g (.cells c elem)}
   |_=> .ended (.stuck "early: the variable does not wait" (fr.pos P)) w1):=fun w1 h=>by
  split
  ·exact h
  ·trivial
 unfold early
 simp only []
 repeat' first
  |trivial
  |exact hn _ (gP _)
  |exact gP _
  |exact hn _ (cq (by assumption))
  |exact cq (P:=P) (by assumption)
  |split
def rd(main:Bool)(listen:Bool)(fr:Frame)(callers:List Frame)(dying:Option Dying)(s:Sem Next)(w:World):w2 w.drawn (stepG.apply P listen fr callers dying s w):=by
  unfold stepG.apply
  simp only []
  apply lN
  have hr:(if listen=true then s.runT P w #[]else(s.run P w,#[])).1=s.run P w:=by
    split
    · exact vS _ _ _ _
    · rfl
  rw [hr]
  split
  all_goals first
    |exact cq (by assumption)
    |exact jA (by assumption)
    |trivial
    |exact nN (wl _ _ _ _ _) (jA (by assumption))
    |exact nN (oP _ _ _) (jA (by assumption))
    |exact nN (H4 _ _ _ _ _) (jA (by assumption))
    | (repeat' split
       all_goals first
        |exact cq (by assumption)
        |exact nN (oP _ _ _) (cq (by assumption)))
def IY(main listen:Bool)(fr:Frame)(callers:List Frame)(dying:Option Dying)(w:World):w2 w.drawn (stepG.oper P listen fr callers dying w):=by
 unfold stepG.oper
 split
 ·trivial
 ·split
  ·exact rd main _ _ _ _ _ _
  ·exact rd main _ _ _ _ _ _
def J4(main listen:Bool)(fr:Frame)(callers:List Frame)(dying:Option Dying)(w:World):w2 w.drawn (stepG.exec P main listen fr callers dying w):=by
 have leave: ∀(c:Prop) (_:Decidable c) (jump:Option Code),w2 w.drawn (match fr.roundOf with
   |none=>if c then GStep.go {frame:={fr with mode:= .returning},callers,status:= .running,dying} w else .ended (.stuck "exit, goto: no such block or label" (fr.pos P)) w
   |some l=>GStep.after (seen P fr.fn ((Instr.endRound l jump).runT P w #[]).2) (match ((Instr.endRound l jump).runT P w #[]).1 with
    | .ok v w=>doReturn P main fr callers dying v w
    | .halt _ w=> .ended (.stuck "range over a function: no such loop" (fr.pos P)) w)):=fun c _ jump=>by
  split
  ·exact AL (gP _) trivial
  ·apply lN
   split
   ·exact nN (q6 _ _ _ _ _ _) (lM (by assumption))
   ·trivial
 unfold stepG.exec
 simp only []
 split
 all_goals first
  |exact leave _ _ _
  |exact gP _
  |exact rd main _ _ _ _ _ _
  |trivial
  |(split<;>first|exact gP _|trivial)
  |(cases h:exitTo _ _<;>first|exact gP _|exact leave _ _ _)
  |(cases h:gotoIn _ _<;>first|exact gP _|exact leave _ _ _)
  |(cases h:Extern.next _<;>first|trivial|exact rd main _ _ _ _ _ _)
  |(apply lN;split<;>first|trivial|exact lM (by assumption)|exact oG (by assumption)|exact nN (rd main _ _ _ _ _ _) (lM (by assumption)))
  |(refine AL (gP _) ?_;split<;>first|trivial|exact cq (by assumption))
  |(refine AL ?_ (gP _);exact IY main _ _ _ _ _)
  |skip
def G6(main listen:Bool)(g:Goroutine)(w:World):w2 w.drawn (stepG P main g w listen):=by
 unfold stepG
 simp only []
 split
 ·exact Mm _ _ _
 ·exact J4 _ _ _ _ _ _
 ·exact FB _ _ _ _ _
def yL{op:TimerOp}(h:timerOp m op= .ok (v,m')):m.world.drawn<=m'.world.drawn:=by
 have hr: ∀(m0:Machine) (k:Nat) (t:Timer) (when_ period:Nat),(retime m0 k t when_ period).2.world.drawn=m0.world.drawn:=fun m0 k t a b=>by
  unfold retime drain
  cases t.chan with
  |none=>rfl
  |some c=>simp only [];split<;>rfl
 have ho: ∀{var:Addr} {m0:Machine},timerOp.opened m var=some m0->m0.world.drawn=m.world.drawn:=fun{var m0} h=>by
  unfold timerOp.opened at h
  repeat' (split at h)
  all_goals (cases h;try rfl)
 have hn: ∀{var:Addr} {m0:Machine} {f:Nat->Timer->Value×Machine} {r:Value×Machine},timerOp.named m0 var f= .ok r-> ∃k t,r=f k t:=fun{var m0 f r} h=>by
  unfold timerOp.named at h
  split at h
  ·cases h;exact⟨_,_,rfl⟩
  ·cases h
 unfold timerOp at h
 split at h
 ·repeat' (split at h)
  all_goals first
   |(cases h;exact gP _)
   |(cases h;done)
 ·obtain⟨k,t,e⟩:=hn h
  rw [show m' =(retime m k t 0 t.period).2 from congrArg Prod.snd e,hr]
  exact gP _
 ·split at h
  ·rename_i m0 hm0
   obtain⟨k,t,e⟩:=hn h
   rw [show m' =(retime m0 k t _ _).2 from congrArg Prod.snd e,hr,ho hm0]
   exact gP _
  ·cases h
 ·simp only [Except.ok.injEq,Prod.mk.injEq]at h
  rw [<-h.2]
  exact gP _
def Ck{fr:Frame}{m:String}{g:Goroutine}(h:endThrow fr m w= .go g w' es):w.drawn<=w'.drawn:=by
 have:=oP fr m w
 rw [h]at this
 exact this
def Dg(m m' :Machine)(i:Nat)(b:Bool)(h:(runT P m i b).1= .next m'):m.world.drawn<=m'.world.drawn:=by
  simp only [runT]at h
  revert h
  generalize m.gs.swapAt! _ _=gg
  have hs:=G6 (P:=P) (i==0) b gg.1 m.world
  revert hs
  generalize stepG P _ gg.1 m.world b=s
  intro hs h
  cases s<;>simp only []at h
  all_goals first
    |(simp at h;done)
    |exact iZ hs (uI _ _ _ _ _ _ _ _ _ h)
    |exact iZ hs (xS _ _ _ _ h)
    |(simp only [tF]at h;subst h;exact hs)
    |(repeat' first
        |(simp at h;done)
        |(simp only [tF]at h;subst h;exact hs)
        |(simp only [tF]at h;subst h;exact iZ hs (yL (by assumption)))
        |(simp only [tF]at h;subst h;exact iZ hs (Ck (by assumption)))
        |split at h)
def BO(m m' :Machine)(k:Nat)(h:serve P m k= .next m'):m.world.drawn<=m'.world.drawn:=by
 unfold serve at h
 simp only []at h
 repeat' first
  |(simp at h;done)
  |(simp only [tF]at h;subst h;exact gP _)
  |split at h
def Cq(m m' :Machine)(ops:Array MemOp)(h:askOn P m= .machine (.next m') ops):m.world.drawn<=m'.world.drawn:=by
 unfold askOn at h
 simp only []at h
 repeat' first
  |(simp at h;done)
  |(simp only [Move.machine.injEq]at h;exact iZ (cq (by assumption)) (BO _ _ _ h.1))
  |(simp only [Move.machine.injEq,tF]at h;obtain⟨rfl,_⟩:=h;(try simp only [Machine.advanceTo]);exact cq (by assumption))
  |(simp only [Move.machine.injEq,tF]at h;obtain⟨rfl,_⟩:=h;(try simp only [Machine.advanceTo]);exact iZ (cq (by assumption)) (cq (by assumption)))
  |split at h
def zt{gs:Array Goroutine}{rest:Rest}{t:Nat}{x:α}(h:s.run P (Machine.advanceTo {world:=w,gs:=gs,rest:=rest} t).world= .ok x w'):w.drawn<=w'.drawn:=by
 have:=cq h
 simpa only [Machine.advanceTo] using this
def Bg(m m' :Machine)(i:Nat)(h:askOn P m= .goroutine m' i):m.world.drawn<=m'.world.drawn:=by
  unfold askOn at h
  simp only []at h
  repeat' first
    |(simp at h;done)
    |(simp only [Move.goroutine.injEq]at h;rw [<-h.1];(try simp only [Machine.advanceTo]);first
        |exact cq (by assumption)
        |exact iZ (cq (by assumption)) (cq (by assumption))
        |exact iZ (cq (by assumption)) (iZ (cq (by assumption)) (cq (by assumption)))
        |exact iZ (cq (by assumption)) (iZ (cq (by assumption)) (iZ (cq (by assumption)) (cq (by assumption))))
        |exact iZ (cq (by assumption)) (iZ (cq (by assumption)) (zt (by assumption)))
        |exact iZ (cq (by assumption)) (iZ (cq (by assumption)) (iZ (zt (by assumption)) (cq (by assumption)))))
    |split at h
def yq(m:Machine):(∃m₂:Machine,m.world.drawn<=m₂.world.drawn/\ask P m=askOn P m₂)\/(∃o w,ask P m= .machine (.ended o w) #[]):=by
 unfold ask
 by_cases hw:m.rest.watch=true
 ·rw [fE hw]
  cases hc:(choose (.extern "collector.look" 2)).run P m.world with
  |halt h w=>exact .inr ⟨_,_,rfl⟩
  |ok k world=>
   have e1:=cq hc
   rcases k with _|_|k
   ·exact .inl ⟨{m with world},e1,rfl⟩
   ·show(∃m₂:Machine,m.world.drawn<=m₂.world.drawn/\(match Go.look P m.gs m.rest world with| .next m=>askOn P m|e=>Move.machine e)=askOn P m₂)\/
     (∃o w,(match Go.look P m.gs m.rest world with| .next m=>askOn P m|e=>Move.machine e)= .machine (.ended o w) #[])
    cases hl:Go.look P m.gs m.rest world with
    |next m₂=>exact .inl ⟨m₂,iZ e1 (xS _ _ _ _ hl),rfl⟩
    |ended o w=>exact .inr ⟨o,w,rfl⟩
   ·exact .inl ⟨{m with world},e1,rfl⟩
 ·simp only [hw,sb,nu]
  exact .inl ⟨m,gP _,rfl⟩
def Dw(m m' :Machine)(ops:Array MemOp)(h:move P m= .machine (.next m') ops):m.world.drawn<=m'.world.drawn:=by
 have ha: ∀m1:Machine,m1.world.drawn=m.world.drawn->ask P m1= .machine (.next m') ops->m.world.drawn<=m'.world.drawn:=fun m1 e h=>by
  rcases yq (P:=P) m1 with⟨m₂,hs,he⟩|⟨o,w,he⟩
  ·rw [he]at h;rw [<-e];exact iZ hs (Cq m₂ m' ops h)
  ·rw [he]at h;simp at h
 unfold move at h
 repeat' first
  |(simp at h;done)
  |(refine ha _ ?_ h;rfl)
  |split at h
def B5(m m' :Machine)(i:Nat)(h:move P m= .goroutine m' i):m.world.drawn<=m'.world.drawn:=by
 have ha: ∀m1:Machine,m1.world.drawn=m.world.drawn->ask P m1= .goroutine m' i->m.world.drawn<=m'.world.drawn:=fun m1 e h=>by
  rcases yq (P:=P) m1 with⟨m₂,hs,he⟩|⟨o,w,he⟩
  ·rw [he]at h;rw [<-e];exact iZ hs (Bg m₂ m' i h)
  ·rw [he]at h;cases h
 unfold move at h
 repeat' first
  |(simp at h;done)
  |(refine ha _ ?_ h;rfl)
  |(simp only [Move.goroutine.injEq]at h;rw [<-h.1];exact gP _)
  |split at h
def C4(h:step P m= .next m'):m.world.drawn<=m'.world.drawn:=by
 simp only [step,stepT]at h
 split at h
 ·rename_i m₁ i hm
  exact iZ (B5 m m₁ i hm) (Dg m₁ m' i _ h)
 ·rename_i s ops hm
  simp only []at h
  subst h
  exact Dw m m' ops hm
def vY(h:Steps P m m'):m.world.drawn<=m'.world.drawn:=by
 obtain⟨n,hn⟩:=h
 induction n generalizing m with
 |zero=>simp only [runN,tF]at hn;rw [hn];exact gP _
 |succ n ih=>
  simp only [runN]at hn
  split at hn
  ·rename_i m1 H
   exact iZ (C4 H) (ih hn)
  ·rename_i A
   exact absurd hn (A _)
def Co{args:Array Value}(h:Calls P f args w R)(ho: ∀w',¬R .outgrown w'):Calls P f args w fun e w' =>R e w' /\w.drawn<=w'.drawn:=fun cs=>by
 obtain⟨e,w',fr,hr,hc,J⟩:=h cs
 refine⟨e,w',fr,⟨hr,?_⟩,hc,J⟩
 cases e with
 |outgrown=>exact absurd hr (ho w')
 |returned v=>exact vY (show Steps P _ _ from hc)
 |panicked c=>exact vY (show Steps P _ _ from hc)
end

def fw(r:Option Nat):Fence:={fn:=fun _=>True,depth:=none,alive:=false,round:=r}
def p6{r:Option Nat}{n:Nat}{P:Program}{args:Array Value}:CallsIn (fw r) n P f args w R↔Calls P f args w R:=callsIn_wide
def Ce{r:Option Nat}{n:Nat}:(fw r).depth.isSome=true->1<=n:=fun h=>by cases h
structure En where
 P:Program
 N:Fr
 B:Nat->Prop
 w0:World
 S0:SH
 r:Option Nat
def En.base(E:En):Nat:=E.w0.heap.size

def Ls(P:Program)(o:Oper)(a:Act)(hg:Act->World->Prop):Result Next->Prop
 | .ok (.value v) w' =>hg (a.put o.dst v) w'
 | .ok .skip w' =>hg (a.put o.dst undef) w'
 | .ok (.enter f args) w' =>Calls P f args w' fun e w'' => ∃v,e= .returned v/\hg (a.put o.dst v) w''
 | .ok (.round l f tmps assign body) w' =>RoundIn (fw none) 0 P l f tmps assign body w' fun e w'' => ∃v,e= .returned v/\hg (a.put o.dst v) w''
 |_=>False
def BZ(P:Program)(o:Oper)(a:Act)(w:World)(hg:Act->World->Prop):Prop:=(∀c,o.op≠ .defer c)/\Ls P o a hg ((execOp a.eval o).run P w)
def Dh{r:Option Nat}{n:Nat}{P:Program}{l:Nat}{tmps:Array Value}{assign body:Code}(h:RoundIn (fw none) 0 P l f tmps assign body w R):RoundIn (fw r) n P l f tmps assign body w R:=
 ⟨trivial,fun c cs _=>h.2 c cs (fun _ hd=>by cases hd)⟩
variable{hg K' :Act->World->Prop}
def Hl{P:Program}(hK: ∀a w,hg a w->K' a w){r:Result Next}(h:Ls P o a hg r):Ls P o a K' r:=by
 cases r with
 |ok n w=>
  cases n<;>simp only [Ls]at h ⊢
  case value=>exact hK _ _ h
  case skip=>exact hK _ _ h
  case enter f args=>exact h.mono fun e w' ⟨v,he,hk⟩=>⟨v,he,hK _ _ hk⟩
  case round l f tmps assign body=>exact h.mono fun e w' ⟨v,he,hk⟩=>⟨v,he,hK _ _ hk⟩
 |halt x w=>simp only [Ls]at h
def jT{P:Program}(hK: ∀a w,hg a w->K' a w)(h:BZ P o a w hg):BZ P o a w K' :=⟨h.1,Hl hK h.2⟩
variable{ay:Exit->Act->World->Prop}{β:Type}{res:β->Ty}
def gT{P:Program}{r:Option Nat}(hK: ∀a w,hg a w->K' a w)(h:BZ P o a w hg):o.wpIn (fw r) 0 P a w K' ay:=by
 obtain⟨hd,h⟩:=h
 refine⟨fun _ _=>trivial,?_⟩
 rw [Oper.semAt_eq _ _ _ hd]
 generalize (execOp a.eval o).run P w=res at h
 cases res with
 |ok n w=>
  cases n<;>simp only [Ls]at h<;>simp only [Oper.uponIn]
  case value=>exact hK _ _ h
  case skip=>exact hK _ _ h
  case enter f args=>exact⟨Ce,p6.2 (h.mono fun e w' ⟨v,he,hk⟩=>by subst he;exact hK _ _ hk)⟩
  case round l f tmps assign body=>exact⟨Ce,(Dh h).mono fun e w' ⟨v,he,hk⟩=>by subst he;exact hK _ _ hk⟩
 |halt x w=>simp only [Ls]at h

def bE(E:En)(O:List OE)(G:io)(o:Oper)(t:Ty):Prop:=
 ∀a w S,hY w S->cr E.base E.B w S O->cH E.N S a G->
  BZ E.P o a w (fun a' w' => ∃v S',a' =a.put o.dst v/\gj oE w S w' S' /\hY w' S' /\t.p S' v)
structure St(E:En)(O:List OE)(G:io)(a:Act)(w:World)(S:SH):Prop where
 ext:gj E.B E.w0 E.S0 w S
 sat:hY w S
 own:cr E.base E.B w S O
 facts:cH E.N S a G
def RG(E:En)(ops:Array Oper)(ay:Exit->Act->World->Prop)(l:List Oper)(O:List OE)(G:io):Prop:= ∀a w S,St E O G a w S->wpListIn (fw E.r) 0 E.P ops ay l a w
def CG(E:En)(ay:Exit->Act->World->Prop)(c:Code)(O:List OE)(G:io):Prop:= ∀a w S,St E O G a w S->c.wpIn (fw E.r) 0 E.P ay a w
def AT(E:En)(ay:Exit->Act->World->Prop)(e:Exit)(O:List OE)(G:io):Prop:= ∀a w S,St E O G a w S->ay e a w

variable{after:Array Edge}{fn:Func}{pos:String}{ts:List Ty}{y:Operand}
section
variable{E:En}{G' :io}{l:List Oper}
def St.step(h:St E O G a w S)(k:gj oE w S w' S')(hs:hY w' S')(hd:Nat.blt ac E.N.n=true)(hv:t.p S' v):
  St E O ((ac,t)::G) (a.put (some ac) v) w' S' :=
 ⟨h.ext.step0 k,hs,h.own.ext0 k,(h.facts.mono k.keep).put hd hv⟩
def St.sub(h:St E O G a w S)(k:FK G' G):St E O G' a w S:=⟨h.ext,h.sat,h.own,h.facts.sub (y9 k)⟩
def RG.of(K:o.guard=none)(h: ∀a w S,St E O G a w S->BZ E.P o a w (fun a' w' =>wpListIn (fw E.r) 0 E.P ops ay l a' w')):RG E ops ay (o::l) O G:=fun a w S st=>
 wpListIn_plain K fun _ hK=>gT hK (h a w S st)

def zV{op:Op}{ty:TypeId}(h:bE E O G ⟨some ac,op,ty,pos,after,none⟩ t)(hd:Nat.blt ac E.N.n=true)(k:RG E ops ay l O ((ac,t)::G)):
  RG E ops ay (⟨some ac,op,ty,pos,after,none⟩::l) O G:= .of rfl fun a w S st=>
 jT (fun a' w' ⟨_,_,ha,he,hs,hv⟩=>by subst ha;exact k _ _ _ (st.step he hs hd hv)) (h a w S st.sat st.own st.facts)
def bu(h:AT E ay .normal O G):RG E ops ay [] O G:=fun a w S st=>h a w S st
def aL{id:Nat}{l:List Oper}(h:RG E l.toArray ay l O G):CG E ay (.region id l.toArray false) O G:=fun a w S st=>wpIn_region_lit (h a w S st)
def aF{x y:Code}(h:CG E (Exit.then (y.wpIn (fw E.r) 0 E.P ay) ay) x O G):CG E ay (.seq x y) O G:=fun a w S st=>wpIn_seq (h a w S st)
def av{y:Code}(h:CG E ay y O G):AT E (Exit.then (y.wpIn (fw E.r) 0 E.P ay) ay) .normal O G:=h
def bA(h:AT E ay .normal O G):CG E ay .skip O G:=fun a w S st=>wpIn_skip (h a w S st)
def dU{id:Nat}(h:AT E ay (.exit id) O G):CG E ay (.exit id) O G:=fun a w S st=>wpIn_exit (h a w S st)
def rk(h:AT E ay .ret O G):CG E ay .ret O G:=fun a w S st=>wpIn_ret (h a w S st)
def cx{e:Exit}(h:AT E ay e O G')(k:FK G' G):AT E ay e O G:=fun a w S st=>h a w S (st.sub k)
def w7{c:Operand}{x y:Code}(D:ax E.N G c (V rB b))(A:b=true->CG E ay x O G)(hy:b=false->CG E ay y O G):CG E ay (.cond c x y) O G:=fun a w S st=>by
 have hv:a.eval c= .bool b:=fZ.1 (D S a st.facts)
 refine wpIn_cond hv ?_
 cases b with
 |true=>exact A rfl a w S st
 |false=>exact hy rfl a w S st
def ai{id:Nat}(h:CG E (Exit.inBlock id ay) c O G):CG E ay (.block id c) O G:=fun a w S st=>wpIn_block (h a w S st)
def qQ(r:Option Nat)(P:Program)(c:Code)(ay:Exit->Act->World->Prop)(a:Act)(w:World):Prop:=
 ∀(b:Frame) (k:List Item) (cs:List Frame),b.roundOf=r-> ∃e a' w',ay e a' w' /\ArrivesIn (Machine.fenced P (fw r)) P (lone (b.atR a (.code c:: .inLoop c::k)) cs w) b k cs e a' w'
def ES{r:Option Nat}{n:Nat}:(fw r).room n:=fun _ hd=>by cases hd
def Am{r:Option Nat}{P:Program}{ay:Exit->Act->World->Prop}(h:qQ r P c ay a w):(Code.loop c).wpIn (fw r) 0 P ay a w:=fun b k cs hro D hr=>
 let⟨e,a',w',hq,harr⟩:=h b k cs hro
 ⟨e,a',w',hq,.of_steps (.one (fenced_calm D hr rfl) stepR_loop) harr⟩
def yT{r:Option Nat}{P:Program}{ay:Exit->Act->World->Prop}(h:c.wpIn (fw r) 0 P (Exit.then (qQ r P c ay) ay) a w):qQ r P c ay a w:=by
 intro b k cs hro
 obtain⟨e,a₁,w₁,hq,harr⟩:=h b (.inLoop c::k) cs hro trivial ES
 cases e with
 |normal=>
  obtain⟨e₂,a₂,w₂,hq₂,harr₂⟩:=hq b k cs hro
  exact⟨e₂,a₂,w₂,hq₂,.of_steps (StepsIn.trans harr (.one (fenced_calm (n:=0) (F:=fw r) trivial ES rfl) stepR_inLoop)) harr₂⟩
 |exit id=>exact⟨_,a₁,w₁,hq,.pass (x:= .inLoop c) rfl (fun _ _=> .inl (by simp)) harr⟩
 |goto l=>exact⟨_,a₁,w₁,hq,.pass (x:= .inLoop c) rfl (fun _ _=> .inl (by simp)) harr⟩
 |ret=>exact⟨_,a₁,w₁,hq,.pass (x:= .inLoop c) rfl (fun _ _=> .inl (by simp)) harr⟩
 |panic ch=>exact⟨_,a₁,w₁,hq,.pass (x:= .inLoop c) rfl (fun _ _=> .inl (by simp)) harr⟩
 |outgrown=>exact⟨_,a₁,w₁,hq,.pass (x:= .inLoop c) rfl (fun _ _=> .inl (by simp)) harr⟩
def LG(E:En)(ay:Exit->Act->World->Prop)(c:Code)(O:List OE)(G:io):Prop:= ∀a w S,St E O G a w S->qQ E.r E.P c ay a w
def bq(h:LG E ay c O G):CG E ay (.loop c) O G:=fun a w S st=>Am (h a w S st)
def dg(h:CG E (Exit.then (qQ E.r E.P c ay) ay) c O G):LG E ay c O G:=fun a w S st=>yT (h a w S st)
def aE(h:LG E ay c O G')(k:FK G' G):LG E ay c O G:=fun a w S st=>h a w S (st.sub k)
def aM(h:LG E ay c O G):AT E (Exit.then (qQ E.r E.P c ay) ay) .normal O G:=h
def au{id:Nat}(h:AT E ay (.exit id) O G):AT E (Exit.then hg ay) (.exit id) O G:=h
def ah(h:AT E ay .ret O G):AT E (Exit.then hg ay) .ret O G:=h
def rX{id:Nat}(h:AT E ay .ret O G):AT E (Exit.inBlock id ay) .ret O G:=h
def bl{id:Nat}(h:AT E ay .normal O G):AT E (Exit.inBlock id ay) .normal O G:=h
def cj{id:Nat}(h:AT E ay .normal O G):AT E (Exit.inBlock id ay) (.exit id) O G:=fun a w S st=>by
 simp only [Exit.inBlock,qw];exact h a w S st
def bT{id id' :Nat}(hne:Nat.beq id' id=false)(h:AT E ay (.exit id') O G):AT E (Exit.inBlock id ay) (.exit id') O G:=fun a w S st=>by
 have:id' ≠id:=fun e=>by subst e;simp at hne
 simp only [Exit.inBlock,this,nu];exact h a w S st

def sn(S:SH):List Ty->List Value->Prop
 |[],[]=>True
 |t::ts,v::vs=>t.p S v/\sn S ts vs
 |_,_=>False
def sn.mono(h:lu S S'): ∀{ts:List Ty} {vs:List Value},sn S ts vs->sn S' ts vs
 |[],[],_=>trivial
 |t::_,_::_,⟨H,J⟩=>⟨t.mono h H,sn.mono h J⟩
def sn.length: ∀{ts:List Ty} {vs:List Value},sn S ts vs->vs.length=ts.length
 |[],[],_=>rfl
 |_::_,_::_,⟨_,J⟩=>by simp [sn.length J]
def cw(P:Program)(f:FuncId)(ts:List Ty)(t:Ty):Prop:=
 ∀w S vs,hY w S->sn S ts vs->Calls P f vs.toArray w fun e w' => ∃v S',e= .returned v/\gj oE w S w' S' /\hY w' S' /\t.p S' v
def Cl(E:En)(t:Ty):Ending->World->Prop:=fun e w' => ∃v S',e= .returned v/\gj E.B E.w0 E.S0 w' S' /\hY w' S' /\t.p S' v
def sB(k:Nat):List Ty->io
 |[]=>[]
 |t::ts=>(k,t)::sB (k+1) ts
def xR: ∀(ts:List Ty) (k j:Nat) (t:Ty),look (sB k ts) j=some t-> ∃i,j=k+i/\ts[i]? =some t
 |[],_,_,_,h=>by simp [sB,look]at h
 |u::ts,k,j,t,h=>by
  unfold sB look at h
  by_cases D:Nat.beq k j=true
  ·rw [D]at h
   exact⟨0,by rw [kR D];rfl,by simpa using h⟩
  ·rw [uT]at D
   rw [D]at h
   obtain⟨i,H,J⟩:=xR ts (k+1) j t h
   exact⟨i+1,by omega,by simpa using J⟩
def sn.at_: ∀{ts:List Ty} {vs:List Value} (_:sn S ts vs) (i:Nat) (t:Ty),ts[i]? =some t-> ∃v,vs[i]? =some v/\t.p S v
 |_::_,v::_,⟨H,_⟩,0,t,h=>⟨v,rfl,by simp at h;rw [<-h];exact H⟩
 |_::ts,_::vs,⟨_,J⟩,i+1,t,h=>by simpa using sn.at_ J i t (by simpa using h)
def s9{vs:List Value}(h:sn S ts vs)(n:Nat)(hn:ts.length<=n):
  cH ⟨n,[]⟩ S {tmps:=vs.toArray++Array.replicate (n-vs.toArray.size) undef,defers:=[]} (sB 0 ts):=by
 have hl:=h.length
 refine⟨by simp;omega,rfl,fun j t hj=>?_⟩
 obtain⟨i,e,hi⟩:=xR ts 0 j t hj
 have e' :j=i:=by omega
 subst e'
 obtain⟨v,hv,Y⟩:=h.at_ j t hi
 have hlt:j<vs.length:=(mO.1 hv).1
 have:(vs.toArray++Array.replicate (n-vs.toArray.size) undef).getD j undef=v:=by
  rw [Bq,Array.getElem?_append_left (by simpa using hlt)]
  simp [hv]
 rw [this];exact Y
def Bi{P:Program}(hf:P.funcs[f]? =some fn)(D:fn.body=some c)(hn:ts.length<=fn.ntmps)(h: ∀w0 S0,CG ⟨P,⟨fn.ntmps,[]⟩,oE,w0,S0,none⟩ (bodyPost P fn (Cl ⟨P,⟨fn.ntmps,[]⟩,oE,w0,S0,none⟩ t)) c [] (sB 0 ts)):cw P f ts t:=by
 intro w S vs hs hv
 exact p6.1 (callsIn_of_wp (F:=fw none) (n:=0) hf D trivial (h w S _ w S ⟨gj.refl _ _ _,hs,trivial,s9 hv _ hn⟩))
def mW(P:Program)(fn:Func)(k:Nat)(h:fn.results= #[.tmp k])(tmps:Array Value)(w:World):(results fn tmps).run P w= .ok (tmps.getD k undef) w:=by
 simp [results,h]
def aA{P:Program}{N:Nat}{B:Nat->Prop}{w0:World}{S0:SH}(hr:fn.results= #[.tmp k])(hk:look G k=some t):
  AT ⟨P,⟨N,[]⟩,B,w0,S0,none⟩ (bodyPost P fn (Cl ⟨P,⟨N,[]⟩,B,w0,S0,none⟩ t)) .ret O G:=fun _ _ S st=>
 ⟨st.facts.defers,_,mW P fn k hr _ _,_,S,rfl,st.ext,st.sat,st.facts.at_ k t hk⟩
def tT(ts:List Ty):Ty where
 p:=fun S v=> ∃vs,v= .tuple vs.toArray/\sn S ts vs
 mono:=fun h k=>by obtain⟨vs,e,k⟩:=k;exact⟨vs,e,sn.mono h k⟩
def wH(P:Program)(fn:Func)(j k:Nat)(h:fn.results= #[.tmp j,.tmp k])(tmps:Array Value)(w:World):(results fn tmps).run P w= .ok (.tuple #[tmps.getD j undef,tmps.getD k undef]) w:=by
 simp [results,h]
def dO{P:Program}{N:Nat}{B:Nat->Prop}{w0:World}{S0:SH}{u:Ty}(hr:fn.results= #[.tmp j,.tmp k])(hj:look G j=some t)(hk:look G k=some u):
  AT ⟨P,⟨N,[]⟩,B,w0,S0,none⟩ (bodyPost P fn (Cl ⟨P,⟨N,[]⟩,B,w0,S0,none⟩ (tT [t,u]))) .ret O G:=fun _ _ S st=>
 ⟨st.facts.defers,_,wH P fn j k hr _ _,_,S,rfl,st.ext,st.sat,[_,_],rfl,st.facts.at_ j t hj,st.facts.at_ k u hk,trivial⟩
def ua(P:Program)(fn:Func)(i j k:Nat)(h:fn.results= #[.tmp i,.tmp j,.tmp k])(tmps:Array Value)(w:World):(results fn tmps).run P w= .ok (.tuple #[tmps.getD i undef,tmps.getD j undef,tmps.getD k undef]) w:=by
 simp [results,h]
def Bm{P:Program}{N:Nat}{B:Nat->Prop}{w0:World}{S0:SH}{s u:Ty}(hr:fn.results= #[.tmp i,.tmp j,.tmp k])(hi:look G i=some s)(hj:look G j=some t)(hk:look G k=some u):
  AT ⟨P,⟨N,[]⟩,B,w0,S0,none⟩ (bodyPost P fn (Cl ⟨P,⟨N,[]⟩,B,w0,S0,none⟩ (tT [s,t,u]))) .ret O G:=fun _ _ S st=>
 ⟨st.facts.defers,_,ua P fn i j k hr _ _,_,S,rfl,st.ext,st.sat,[_,_,_],rfl,st.facts.at_ i s hi,st.facts.at_ j t hj,st.facts.at_ k u hk,trivial⟩
end

variable{dst:Option Tmp}{xt yt:TypeId}
section
variable{E:En}{ty:TypeId}
def bE.of_run(h: ∀a w S,hY w S->cr E.base E.B w S O->cH E.N S a G->
  ∃v w' S',(execOp a.eval o).run E.P w= .ok (.value v) w' /\gj oE w S w' S' /\hY w' S' /\t.p S' v)(hd: ∀c,o.op≠ .defer c:=by intro c h;cases h):bE E O G o t:=fun a w S hs ho hf=>by
 obtain⟨v,w',S',hr,he,hs',hv⟩:=h a w S hs ho hf
 refine⟨hd,?_⟩
 rw [hr]
 exact⟨v,S',rfl,he,hs',hv⟩
def bE.of_pure(h: ∀a w S,hY w S->cr E.base E.B w S O->cH E.N S a G-> ∃v,(execOp a.eval o).run E.P w= .ok (.value v) w/\t.p S v)(hd: ∀c,o.op≠ .defer c:=by intro c h;cases h):bE E O G o t:=
 .of_run (fun a w S hs ho hf=>let⟨v,hr,hv⟩:=h a w S hs ho hf;⟨v,w,S,hr,gj.refl _ _ _,hs,hv⟩) hd

def bt(A:ax E.N G x t):bE E O G ⟨dst,.move x,ty,pos,after,g⟩ t:=
 .of_pure fun a _ S _ _ hf=>⟨a.eval x,rfl,A S a hf⟩
def bC(A:ax E.N G x t):bE E O G ⟨dst,.assign x,ty,pos,after,g⟩ t:=
 .of_pure fun a _ S _ _ hf=>⟨a.eval x,rfl,A S a hf⟩
def wW{c:Operand}(hc:ax E.N G c (V rB b))(A:b=true->ax E.N G x t)(hy:b=false->ax E.N G y t):bE E O G ⟨dst,.pick c x y,ty,pos,after,g⟩ t:=
 .of_pure fun a _ S _ _ hf=>by
  have H:a.eval c= .bool b:=fZ.1 (hc S a hf)
  refine⟨if b then a.eval x else a.eval y,by simp [execOp,H,asBool],?_⟩
  cases b with
  |true=>exact A rfl S a hf
  |false=>exact hy rfl S a hf

section
variable{k:IntKind}{m n:Int}
def Ci{P:Program}{op:BinOp}{xt:TypeId}{x y:Operand}{k k' :IntKind}{m n:Int}:(eqGuard op xt x y (.int k m) (.int k' n)).run P w= .ok () w:=by
 unfold eqGuard
 cases op<;>rfl
def o3{op:BinOp}(A:ax E.N G x (V (rI k) m))(hy:ax E.N G y (V (rI k) n))(hv: ∀P w,(binOp op xt (.int k m) (.int k n)).run P w= .ok v w)(Y: ∀S,t.p S v):
  bE E O G ⟨dst,.binOp op xt x y yt,ty,pos,after,g⟩ t:=
 .of_pure fun a w S _ _ hf=>by
  have H:a.eval x= .int k m:=dK.1 (A S a hf)
  have J:a.eval y= .int k n:=dK.1 (hy S a hf)
  refine⟨v,?_,Y S⟩
  simp [execOp,H,J,Ci,hv]
def iA(A:ax E.N G x (V (rI k) m))(hy:ax E.N G y (V (rI k) n)):bE E O G ⟨dst,.binOp .add xt x y yt,ty,pos,after,g⟩ (V (rI k) (k.wrap (m+n))):=
 o3 A hy (fun _ _=>by simp [binOp,Op.intArith]) (fun _=>dK.2 rfl)
def j9(A:ax E.N G x (V (rI k) m))(hy:ax E.N G y (V (rI k) n)):bE E O G ⟨dst,.binOp .sub xt x y yt,ty,pos,after,g⟩ (V (rI k) (k.wrap (m-n))):=
 o3 A hy (fun _ _=>by simp [binOp,Op.intArith]) (fun _=>dK.2 rfl)
def Hn(A:ax E.N G x (V (rI k) m))(hy:ax E.N G y (V (rI k) n)):bE E O G ⟨dst,.binOp .mul xt x y yt,ty,pos,after,g⟩ (V (rI k) (k.wrap (m*n))):=
 o3 A hy (fun _ _=>by simp [binOp,Op.intArith]) (fun _=>dK.2 rfl)
def Dp(A:ax E.N G x (V (rI k) m))(hy:ax E.N G y (V (rI k) n))(h0:n≠0):bE E O G ⟨dst,.binOp .rem xt x y yt,ty,pos,after,g⟩ (V (rI k) (m.tmod n)):=
 o3 A hy (fun _ _=>by simp [binOp,Op.intDiv,h0]) (fun _=>dK.2 rfl)
def fl(A:ax E.N G x (V (rI k) m))(hy:ax E.N G y (V (rI k) n)):bE E O G ⟨dst,.binOp .lss xt x y yt,ty,pos,after,g⟩ (V rB (decide (m<n))):=
 o3 A hy (fun _ _=>by simp [binOp,Op.intCmp]) (fun _=>fZ.2 rfl)
def jg(A:ax E.N G x (V (rI k) m))(hy:ax E.N G y (V (rI k) n)):bE E O G ⟨dst,.binOp .leq xt x y yt,ty,pos,after,g⟩ (V rB (decide (m<=n))):=
 o3 A hy (fun _ _=>by simp [binOp,Op.intCmp]) (fun _=>fZ.2 rfl)
def fz(A:ax E.N G x (V (rI k) m))(hy:ax E.N G y (V (rI k) n)):bE E O G ⟨dst,.binOp .gtr xt x y yt,ty,pos,after,g⟩ (V rB (decide (n<m))):=
 o3 A hy (fun _ _=>by simp [binOp,Op.intCmp]) (fun _=>fZ.2 rfl)
def e9(A:ax E.N G x (V (rI k) m))(hy:ax E.N G y (V (rI k) n)):bE E O G ⟨dst,.binOp .geq xt x y yt,ty,pos,after,g⟩ (V rB (decide (n<=m))):=
 o3 A hy (fun _ _=>by simp [binOp,Op.intCmp]) (fun _=>fZ.2 rfl)
def mg(A:ax E.N G x (V (rI k) m))(hy:ax E.N G y (V (rI k) n)):bE E O G ⟨dst,.binOp .eql xt x y yt,ty,pos,after,g⟩ (V rB (m==n)):=
 o3 A hy (fun _ _=>by simp [binOp,Op.intCmp]) (fun _=>fZ.2 rfl)
def eJ(A:ax E.N G x (V (rI k) m))(hy:ax E.N G y (V (rI k) n)):bE E O G ⟨dst,.binOp .neq xt x y yt,ty,pos,after,g⟩ (V rB (m !=n)):=
 o3 A hy (fun _ _=>by simp [binOp,Op.intCmp]) (fun _=>fZ.2 rfl)
def iz(A:ax E.N G x (V rB b)):bE E O G ⟨dst,.unOp .not xt x,ty,pos,after,g⟩ (V rB (!b)):=
 .of_pure fun a w S _ _ hf=>by
  have H:a.eval x= .bool b:=fZ.1 (A S a hf)
  exact⟨.bool (!b),by simp [execOp,H,Op.unary],fZ.2 rfl⟩
def I1{st dt:TypeId}{k' :IntKind}{ac:TypeDesc}(hs:E.P.underlying st=some ac)(hd:E.P.underlying dt=some (.int k'))(A:ax E.N G x (V (rI k) m)):
  bE E O G ⟨dst,.convert st dt x,ty,pos,after,g⟩ (V (rI k') (k'.wrap m)):=
 .of_pure fun a w S _ _ hf=>by
  have H:a.eval x= .int k m:=dK.1 (A S a hf)
  refine⟨.int k' (k'.wrap m),?_,dK.2 rfl⟩
  simp only [execOp,H,convert,mi,mK hs,mK hd,m6]
  cases ac<;>simp [Conv.intToInt]
end

def vg{P:Program}{t:TypeId}(Y:P.underlying t=some .bool)(ac:Nat)(b c:Bool)(w:World):(Op.equalIn (ac+1) t (.bool b) (.bool c)).run P w= .ok (b==c) w:=by
 simp [Op.equalIn,mK Y]
def AD{P:Program}{t:TypeId}{x y:Value}(D: ∀ac,(Op.equalIn (ac+1) t x y).run P w= .ok b w):(Op.equal t x y).run P w= .ok b w:=D 9999
section
def EF{c:Bool}(Y:E.P.underlying xt=some .bool)(A:ax E.N G x (V rB b))(hy:ax E.N G y (V rB c)):bE E O G ⟨dst,.binOp .neq xt x y yt,ty,pos,after,g⟩ (V rB (b !=c)):=
 .of_pure fun a w S _ _ hf=>by
  have H:a.eval x= .bool b:=fZ.1 (A S a hf)
  have J:a.eval y= .bool c:=fZ.1 (hy S a hf)
  exact⟨.bool (b !=c),by simp [execOp,H,J,eqGuard,binOp,AD (fun ac=>vg Y ac b c w)];cases b<;>cases c<;>rfl,fZ.2 rfl⟩
def Hm{op:BinOp}{s u:dN}(A:ax E.N G x (V rS s))(hy:ax E.N G y (V rS u))(hv: ∀P w,(Op.stringOp op ⟨s.toArray⟩ ⟨u.toArray⟩).run P w= .ok (.bool b) w)(K: ∀P w,(eqGuard op xt x y (.string ⟨s.toArray⟩) (.string ⟨u.toArray⟩)).run P w= .ok () w)(D: ∀P w,(binOp op xt (.string ⟨s.toArray⟩) (.string ⟨u.toArray⟩)).run P w=(Op.stringOp op ⟨s.toArray⟩ ⟨u.toArray⟩).run P w):
  bE E O G ⟨dst,.binOp op xt x y yt,ty,pos,after,g⟩ (V rB b):=
 .of_pure fun a w S _ _ hf=>by
  have H:a.eval x= .string ⟨s.toArray⟩:=mS.1 (A S a hf)
  have J:a.eval y= .string ⟨u.toArray⟩:=mS.1 (hy S a hf)
  refine⟨.bool b,?_,fZ.2 rfl⟩
  simp [execOp,H,J,K,D,hv]
def jj{s u:dN}(A:ax E.N G x (V rS s))(hy:ax E.N G y (V rS u)):bE E O G ⟨dst,.binOp .eql xt x y yt,ty,pos,after,g⟩ (V rB (s==u)):=
 Hm A hy (fun _ _=>by simp [Op.stringOp]) (fun _ _=>rfl) (fun _ _=>rfl)
def wX{s u:dN}(A:ax E.N G x (V rS s))(hy:ax E.N G y (V rS u)):bE E O G ⟨dst,.binOp .neq xt x y yt,ty,pos,after,g⟩ (V rB (!(s==u))):=
 Hm A hy (fun _ _=>by simp [Op.stringOp]) (fun _ _=>rfl) (fun _ _=>rfl)
end
end

def Hw:TypeDesc->Bool
 | .struct _| .array _ _=>true
 |_=>false
structure TI(P:Program)(T:TypeId)(sz bytes:Nat)(agg:Bool)(z:List Value):Prop where
 info:(P.info? T).map (fun i=>(i.zero.map (·.cells.toList),i.size,i.bytes))=some (some z,sz,bytes)
 ag:(P.underlying T).map Hw=some agg
variable{T:TypeId}{z:List Value}
section
variable{P:Program}{sz:Nat}{agg:Bool}
def TI.get(h:TI P T sz bytes agg z): ∃i zv,P.info? T=some i/\i.size=sz/\i.bytes=bytes/\i.zero=some zv/\zv.cells=z.toArray:=by
 have:=h.info
 cases hi:P.info? T with
 |none=>rw [hi]at this;simp at this
 |some i=>
  rw [hi]at this
  simp only [Option.map_some,CM,Prod.mk.injEq,Em]at this
  obtain⟨⟨zv,H,J⟩,h3,h4⟩:=this
  exact⟨i,zv,rfl,h3,h4,H,by rw [<-J]⟩
def TI.sizeOf(h:TI P T sz bytes agg z)(w:World):(Go.sizeOf T).run P w= .ok sz w:=by
 obtain⟨i,zv,H,J,_⟩:=h.get
 simp [Go.sizeOf,typeInfo,H,J]
def TI.isAgg(h:TI P T sz bytes agg z)(w:World):(Go.isAgg T).run P w= .ok agg w:=by
 have:=h.ag
 cases hi:P.underlying T with
 |none=>rw [hi]at this;simp at this
 |some ac=>
  rw [hi]at this
  simp only [Option.map_some,CM]at this
  simp only [Go.isAgg,mi,mK hi,m6]
  rw [<-this]
  cases ac<;>simp [Hw]
def TI.zero(h:TI P T sz bytes agg z)(w:World): ∃zv,(zeroValue T).run P w= .ok zv w/\zv.cells=z.toArray:=by
 obtain⟨i,zv,H,_,_,h4,h5⟩:=h.get
 exact⟨zv,by simp [zeroValue,typeInfo,H,h4],h5⟩
end

def fc(b off i:Nat):(⟨b,off,none⟩:Addr).add i=⟨b,off+i,none⟩:=by
 unfold Addr.add
 split
 ·simp_all
 ·rfl
def rN{b:Nat}{c:Array Value}(h:w.heap[b]? =some (.cells c T fr))(i:Nat):w.cell? ⟨b,i,none⟩=c[i]? :=by
 simp [World.cell?,h]
def pf{P:Program}{b n:Nat}{c:Array Value}(h:w.heap[b]? =some (.cells c T fr))(hcs:(c.toList.drop off).take n=cs)(hl:cs.length=n):
  (loadCells ⟨b,off,none⟩ n).run P w= .ok cs.toArray w:=by
 rw [<-hl]
 refine run_loadCells_list w ⟨b,off,none⟩ cs fun j v hv=>?_
 rw [fc,rN h]
 have hj:j<cs.length:=(mO.1 hv).1
 rw [<-hcs,uV (by omega),sd]at hv
 simpa using hv
def gy{P:Program}{b:Nat}{c:Array Value}{U:TypeId}{sz:Nat}{agg:Bool}(ti:TI P U sz bytes agg z)(h:w.heap[b]? =some (.cells c T fr)){r:Rp α}(hsz:r.sz=sz)(hag:r.agg=agg){x:α}(A:r.rc S ((c.toList.drop off).take r.sz) x):
  (loadVar U ⟨b,off,none⟩).run P w= .ok (r.val ((c.toList.drop off).take r.sz)) w:=by
 have hl:=r.len A
 subst hsz
 subst hag
 simp only [loadVar,mi,ti.isAgg,m6]
 cases ha:r.agg with
 |true=>simp [ti.sizeOf,pf h rfl hl,Rp.val,ha]
 |false=>
  have H:=r.sc ha
  have hcell:w.cell? ⟨b,off,none⟩=some (((c.toList.drop off).take r.sz).headD undef):=by
   rw [rN h]
   rw [H]at hl ⊢
   cases hd:c.toList.drop off with
   |nil=>rw [hd]at hl;simp at hl
   |cons v rest=>
    have:(c.toList.drop off)[0]? =some v:=by rw [hd];rfl
    rw [sd]at this
    simpa using this
  simp [hcell,Rp.val,ha]

variable{ats:Array TypeId}
section
variable{E:En}{ty:TypeId}
def fS{r:Rp α}{x:α}{U:TypeId}{p:Operand}{sz:Nat}{agg:Bool}(ti:TI E.P U sz bytes agg z)(hsz:r.sz=sz)(hag:r.agg=agg)(hp:ax E.N G p (bb r x)):
  bE E O G ⟨dst,.load U p,ty,pos,after,g⟩ (V r x):=
 .of_pure fun a w S hs _ hf=>by
  obtain⟨b,off,c,T,fr,H,J,h3⟩:=hp S a hf
  obtain⟨c',h4,h5⟩:=hs.part J (r.len h3)
  rw [<-h5]at h3
  refine⟨r.val ((c'.toList.drop off).take r.sz),?_,_,rfl,h3⟩
  simp [execOp,H,Instr.loadAt,Instr.sureAddr,gy ti h4 hsz hag h3]

def Fh(s:dN):(ByteArray.mk s.toArray).size=s.length:=by simp [ByteArray.size]
def fJ{r:Rp α}{t:TypeId}(Y:E.P.underlying t=some (.slice e))(A:ax E.N G x (V (dz r) xs)):
  bE E O G ⟨dst,.call ⟨.builtin .len,#[x],#[t]⟩,ty,pos,after,g⟩ (V (rI .i64) (xs.length:Int)):=
 .of_pure fun a w S _ _ hf=>by
  obtain⟨ad,cap,H,_⟩:=ik.1 (A S a hf)
  refine⟨.int .i64 xs.length,?_,dK.2 rfl⟩
  simp [execOp,resolve,invoke,builtin,Builtin.len_,mK Y,H,goInt]
def me{s:dN}{t:TypeId}(Y:E.P.underlying t=some .string)(A:ax E.N G x (V rS s)):
  bE E O G ⟨dst,.call ⟨.builtin .len,#[x],#[t]⟩,ty,pos,after,g⟩ (V (rI .i64) (s.length:Int)):=
 .of_pure fun a w S _ _ hf=>by
  have H:a.eval x= .string ⟨s.toArray⟩:=mS.1 (A S a hf)
  refine⟨.int .i64 s.length,?_,dK.2 rfl⟩
  simp [execOp,resolve,invoke,builtin,Builtin.len_,mK Y,H,goInt,Fh]

def gI{α:Type}(xs:List α)(i:Int):Option α:=if 0<=i then xs[i.toNat]? else none
def la(xs:List α)(i:Nat):gI xs (i:Int)=xs[i]? :=by simp [gI]
def FN{r:Rp α}{a:Option Addr}(h:zb r S a xs){x:α}(A:xs[i]? =some x):
  ∃b off c T fr,a=some ⟨b,off,none⟩/\S b=some (.cells c T fr)/\r.rc S ((c.toList.drop (off+i*r.sz)).take r.sz) x:=by
 rcases h with rfl|⟨b,off,c,T,fr,e1,e2,e3⟩
 ·simp at A
 ·refine⟨b,off,c,T,fr,e1,e2,?_⟩
  have h:=ug e3 A
  have hi:i<xs.length:=(mO.1 A).1
  rw [z8,w8,tA]at h
  have:min r.sz (xs.length*r.sz-i*r.sz)=r.sz:=by
   rw [<-Nat.sub_mul]
   have:1*r.sz<=(xs.length-i)*r.sz:=sJ _ (by omega)
   omega
  rw [this]at h
  exact h
def eL{r:Rp α}{y:α}{ix:Operand}{t:TypeId}{k:IntKind}{i:Int}{sz:Nat}{agg:Bool}(Y:E.P.underlying t=some (.slice e))(ti:TI E.P e sz bytes agg z)(hsz:r.sz=sz)(A:ax E.N G x (V (dz r) xs))(hi:ax E.N G ix (V (rI k) i))(hy:gI xs i=some y):
  bE E O G ⟨dst,.indexAddr t x ix,ty,pos,after,g⟩ (bb r y):=
 .of_pure fun a w S _ _ hf=>by
  obtain⟨ad,cap,H,_,_,J⟩:=ik.1 (A S a hf)
  have h3:a.eval ix= .int k i:=dK.1 (hi S a hf)
  have h0:0<=i:=by unfold gI at hy;split at hy;assumption;cases hy
  have hy' :xs[i.toNat]? =some y:=by unfold gI at hy;rw [fE h0]at hy;exact hy
  have hlt:i.toNat<xs.length:=(mO.1 hy').1
  obtain⟨b,off,c,T,fr,e1,e2,e3⟩:=FN J hy'
  subst e1
  refine⟨.pointer (some ⟨b,off+i.toNat*r.sz,none⟩),?_,b,_,c,T,fr,rfl,e2,e3⟩
  have hc:0<=i/\i<(xs.length:Int):=⟨h0,by omega⟩
  simp [execOp,H,h3,Instr.indexAt,asIntOf,mK Y,hc,ti.sizeOf,fc,hsz]

def fW{α β:Type}(r:Rp α)(off:Nat)(q:Rp β)(get:α->β):Prop:= ∀S cs x,r.rc S cs x->q.rc S ((cs.drop off).take q.sz) (get x)
def aX(P:Program)(T:TypeId)(i:Nat):Option (Nat×Nat):=
 match P.underlying T with
 |some (.struct fs)=>(fs[i]?).bind fun f=>(P.info? f.type).map fun q=>(f.offset,q.size)
 |_=>none
def vf{P:Program}{sz:Nat}(h:aX P T i=some (off,sz)): ∃fs f,P.underlying T=some (.struct fs)/\fs[i]? =some f/\f.offset=off/\ ∀w,(sizeOf f.type).run P w= .ok sz w:=by
 unfold aX at h
 split at h
 ·rename_i fs hu
  cases hf:fs[i]? with
  |none=>rw [hf]at h;simp at h
  |some f=>
   rw [hf]at h
   cases hq:P.info? f.type with
   |none=>simp [hq]at h
   |some q=>
    simp [hq]at h
    exact⟨fs,f,hu,hf,h.1,fun w=>by simp [sizeOf,typeInfo,hq,h.2]⟩
 ·cases h
def gY{r:Rp α}{q:Rp β}{get:α->β}{x:α}{sz:Nat}{p:Operand}(hf:aX E.P T i=some (off,sz))(h0:Nat.beq sz 0=false)(hq:fW r off q get)(hoff:Nat.ble (off+q.sz) r.sz=true)(hp:ax E.N G p (bb r x)):bE E O G ⟨dst,.fieldAddr T p i,ty,pos,after,g⟩ (bb q (get x)):=
 .of_pure fun a w S _ _ hF=>by
  obtain⟨b,o,c,U,fr,H,J,h3⟩:=hp S a hF
  obtain⟨fs,f,e1,e2,e3,e4⟩:=vf hf
  have h0' :sz≠0:=fun e=>by subst e;simp at h0
  have hoff' :off+q.sz<=r.sz:=mP hoff
  refine⟨.pointer (some ⟨b,o+off,none⟩),?_,b,_,c,U,fr,rfl,J,?_⟩
  ·simp [execOp,H,Instr.fieldAt,mK e1,e2,Instr.sureAddr,fieldPlace,e4,h0',e3,fc]
  ·have:=hq S _ x h3
   rw [z8,w8,tA,tB (by omega)]at this
   exact this
def af(P:Program)(f:FuncId):Bool:=
 match P.funcs[f]? with
 |some fn=> !(fn.name== "runtime.NumGoroutine")&&fn.body.isSome
 |none=>false
def fA{P:Program}(h:af P f=true)(args:Array Value)(w:World):(callFunc f args).run P w= .ok (.enter f args) w:=by
 unfold af at h
 cases hf:P.funcs[f]? with
 |none=>rw [hf]at h;cases h
 |some fn=>
  rw [hf]at h
  simp only [lG,Ad]at h
  have H:fn.name≠ "runtime.NumGoroutine" :=by simpa using h.1
  have J:fn.body≠none:=fun e=>by rw [e]at h;simp at h
  simp [callFunc,hf,H,J]
def fM(N:Fr)(G:io):List Operand->List Ty->Prop
 |[],[]=>True
 |x::xs,t::ts=>ax N G x t/\fM N G xs ts
 |_,_=>False
def fM.tys{N:Fr}(hF:cH N S a G): ∀{xs:List Operand} {ts:List Ty},fM N G xs ts->sn S ts (xs.map a.eval)
 |[],[],_=>trivial
 |_::_,_::_,⟨H,J⟩=>⟨H S a hF,fM.tys hF J⟩
def bp{xs:List Operand}(hc:af E.P f=true)(hs:cw E.P f ts t)(A:fM E.N G xs ts):
  bE E O G ⟨dst,.call ⟨.value (.func f),xs.toArray,ats⟩,ty,pos,after,g⟩ t:=fun a w S hS _ hF=>by
 have hr:(execOp a.eval ⟨dst,.call ⟨.value (.func f),xs.toArray,ats⟩,ty,pos,after,g⟩).run E.P w= .ok (.enter f (xs.map a.eval).toArray) w:=by
  simp [execOp,resolve,Act.eval,Deferred.ofValue,invoke,fA hc]
 refine⟨fun c h=>(by cases h),?_⟩
 rw [hr]
 exact(hs w S _ hS (A.tys hF)).mono fun e w' ⟨v,S',he,H,J,h3⟩=>⟨v,he,v,S',rfl,H,J,h3⟩
end

def i9{o:Obj}(h:k<w.heap.size):(w.alloc o).heap[k]? =w.heap[k]? :=RowKit.Below.heap_alloc w o k h
def SH.set(S:SH)(b:Nat)(o:Obj):SH:=fun k=>if k=b then some o else S k
def jN(S:SH)(b:Nat)(o:Obj):S.set b o b=some o:=fE rfl
def lY(S:SH){b:Nat}(o:Obj)(h:k≠b):S.set b o k=S k:=cS h
def rP{b:Nat}{o:Obj}(h: ∀q,S b=some q->yD q o):lu S (S.set b o):=fun k q hq=>by
 by_cases hk:k=b
 ·subst hk;exact⟨o,jN _ _ _,h q hq⟩
 ·exact⟨q,by rw [lY _ _ hk];exact hq,pg q⟩
def hY.set(h:hY w S){b:Nat}{o:Obj}(H:w.heap[b]? =some o')(J:yD o o')(h3: ∀q,S b=some q->yD q o):hY w (S.set b o):=by
 refine⟨fun k q hq=>?_,fun p hp=>?_,fun w' hw' =>h.tb w' fun k q hq=>?_⟩
 ·by_cases hk:k=b
  ·subst hk
   rw [jN]at hq
   cases hq
   exact⟨o',H,J⟩
  ·rw [lY _ _ hk]at hq;exact h k q hq
 ·obtain⟨c,T,fr,g1,g2⟩:=h.gl p hp
  by_cases hk:p.1=b
  ·subst hk
   obtain⟨ac,hd⟩:=h3 _ g1
   refine⟨_,T,fr,by rw [jN,hd],?_⟩
   rw [List.toList_toArray,IF ?_]
   ·exact g2
   ·have:=congrArg List.length g2
    rw [wv]at this
    omega
  ·exact⟨c,T,fr,by rw [lY _ _ hk];exact g1,g2⟩
 ·by_cases hk:k=b
  ·subst hk
   obtain⟨o1,g1,g2⟩:=hw' k o (jN _ _ _)
   exact⟨o1,g1,zl (h3 q hq) g2⟩
  ·exact hw' k q (by rw [lY _ _ hk];exact hq)
def gr(o:Obj)(hs:hY w S):gj oE w S (w.alloc o) S/\hY (w.alloc o) S/\S w.heap.size=none:=by
 refine⟨⟨rfl,rfl,rfl,gP _,by simp,fun k hk _=>i9 hk,SH.le_refl _,fun _ _ _=>rfl⟩,hs.same fun b q D=>i9 (hs.lt D),?_⟩
 cases h:S w.heap.size with
 |none=>rfl
 |some q=>have:=hs.lt h;omega
def oV(o:Obj)(hs:hY w S):gj oE w S (w.alloc o) (S.set w.heap.size o)/\hY (w.alloc o) (S.set w.heap.size o):=by
 obtain⟨H,J,h3⟩:=gr o hs
 refine⟨⟨rfl,rfl,rfl,gP _,by simp,fun k hk _=>i9 hk,rP fun q hq=>(by rw [h3]at hq;cases hq),fun k hk _=>lY _ _ (by omega)⟩,J.set (yE w o) (pg o) fun q hq=>by rw [h3]at hq;cases hq⟩
def uS(hs:hY w S):gj oE w S w.drew S/\hY w.drew S:=⟨⟨rfl,rfl,rfl,Nat.le_succ _,gP _,fun _ _ _=>rfl,SH.le_refl _,fun _ _ _=>rfl⟩,hs.same fun _ _ _=>rfl⟩

def M(l:Option Nat)(cap n:Nat):Value:=
 match l with
 |none=> .slice none 0 0
 |some b=> .slice (some ⟨b,0,none⟩) n cap
def sF(w:World)(T:TypeId)(sz:Nat)(l:Option Nat)(cap n:Nat)(cells:List Value):Prop:=
 match l with
 |none=>n=0/\cells=[]
 |some b=> ∃cur,w.heap[b]? =some (.cells cur T (0,0))/\n<=cap/\cap<=maxLen/\cur.size=cap*sz/\cur.toList.take (n*sz)=cells
def sm{α:Type}(m:Bool)(r:Rp α)(T:TypeId)(l:Option Nat)(cap:Nat)(xs:List α)(w:World)(S:SH):Prop:=
 ∃cells,sF w T r.sz l cap xs.length cells/\mL r S cells xs/\ ∀b,l=some b->S b=if m then some (.cells cells.toArray T (0,0))else none
def sF.lt{sz b n:Nat}(h:sF w T sz (some b) cap n cells):b<w.heap.size:=by
 obtain⟨cur,H,_⟩:=h
 exact(sL.1 H).1
def sF.ext{sz n:Nat}(h:sF w T sz l cap n cells)(k: ∀b,l=some b->w'.heap[b]? =w.heap[b]?):sF w' T sz l cap n cells:=by
 cases l with
 |none=>exact h
 |some b=>
  obtain⟨cur,H,J⟩:=h
  exact⟨cur,by rw [k b rfl];exact H,J⟩
def gL{α:Type}(m:Bool)(r:Rp α)(T:TypeId)(l:Option Nat)(cap:Nat)(xs:List α):OE where
 fp:=fun k=>l=some k
 p:=sm m r T l cap xs
 here:=by
  intro w S h k hk
  subst hk
  obtain⟨cells,H,_⟩:=h
  exact H.lt
 kept:=by
  intro C w w' S S' h k hC
  obtain⟨cells,H,J,h3⟩:=h
  refine⟨cells,H.ext fun b D=>?_,mv k.keep J,fun b D=>?_⟩
  ·subst D;exact k.heap b H.lt (hC b rfl)
  ·subst D;rw [k.old b H.lt (hC b rfl)];exact h3 b rfl
abbrev eg{α:Type}(r:Rp α)(T:TypeId)(l:Option Nat)(cap:Nat)(xs:List α):OE:=gL false r T l cap xs
abbrev Z{α:Type}(r:Rp α)(T:TypeId)(l:Option Nat)(cap:Nat)(xs:List α):OE:=gL true r T l cap xs
def mM{α:Type}(xs ys:List α):Option (List α):=if xs.length+ys.length<=68719476736 then some (xs++ys)else none
variable{zs:List α}
def Im(h:mM xs ys=some zs):zs=xs++ys/\xs.length+ys.length<=68719476736:=by
 unfold mM at h
 split at h
 ·exact⟨by simpa using h.symm,by assumption⟩
 ·cases h
variable{news:List Value}
def si{P:Program}{t tx ty:TypeId}{i:TypeInfo}(Y:P.underlying t=some (.slice e))(hi:P.info? e=some i){g sLen sCap:Nat}{cur:Array Value}(K:w.heap[g]? =some (.cells cur e (0,0))){x:Value}{n:Nat}(hs:Src P i.size tx x n news w)(hroom:sLen+n<=sCap)(hfit:sLen*i.size+news.length<=cur.size):
  (Builtin.append_ #[t,tx] ty #[.slice (some ⟨g,0,none⟩) sLen sCap,x]).run P w=
   .ok (.slice (some ⟨g,0,none⟩) (sLen+n) sCap) (w.setRow g (cur.toList.take (sLen*i.size)++news++cur.toList.drop (sLen*i.size+news.length)).toArray):=by
 have hst:=run_storeCells_at P g (sLen*i.size) e news 0 cur w K (by simpa using hfit) hs.one
 simp only [Nat.add_zero]at hst
 rcases hs.kind with⟨e',hk⟩|hk<;>simp [Builtin.append_,mK Y,mK hk,sizeOf,typeInfo,hi,hs.len,hroom,hs.cells,Addr.add_lit,hst]
structure KU(l:Option Nat)(w w' :World):Prop where
 os:w'.os=w.os
 tape:w'.tape=w.tape
 output:w'.output=w.output
 drawn:w.drawn<=w'.drawn
 size:w.heap.size<=w'.heap.size
 heap: ∀k,k<w.heap.size->l≠some k->w'.heap[k]? =w.heap[k]?
variable{t' :TypeId}
def xD{P:Program}{t ty:TypeId}{sz:Nat}{agg:Bool}{n m:Nat}{x:Value}(ti:TI P T sz bytes agg z)(hz:Nat.beq z.length sz=true)(h0:Nat.blt 0 sz=true)(h128:Nat.ble bytes 2048=true)(Y:P.underlying t=some (.slice T))(h:sF w T sz l cap n cells)(hs:Src P sz t' x m news w)(hlen:n+m<=68719476736):
  ∃l' cap' w',(Builtin.append_ #[t,t'] ty #[M l cap n,x]).run P w= .ok (M l' cap' (n+m)) w' /\sF w' T sz l' cap' (n+m) (cells++news)/\KU l w w' /\(∀b,l' =some b->l=some b\/w.heap.size<=b)/\(∀b,l=some b->l' ≠some b->w'.heap[b]? =w.heap[b]?):=by
 obtain⟨i,zv,hi,H,J,h3,h4⟩:=ti.get
 have h128' :=mP h128
 have h0' :0<sz:=by simpa [qx] using h0
 have hz2:z.length=sz:=kR hz
 subst H
 have hnl:=hs.newsLen
 have hbytes:(n+m)*i.bytes<=140737488355328:=iZ (Nat.mul_le_mul hlen (by omega:i.bytes<=2048)) (by omega)
 by_cases hm:m=0
 ·subst hm
  have hn0:news=[]:=uX (by simpa using hnl)
  subst hn0
  refine⟨l,cap,w,?_,by simpa using h,⟨rfl,rfl,rfl,gP _,gP _,fun _ _ _=>rfl⟩,fun b D=> .inl D,fun b _ _=>rfl⟩
  cases l with
  |none=>
   obtain⟨rfl,_⟩:=h
   exact run_append_nothing w t t' ty T i Y hi none 0 0 (gP _) _ hs
  |some b=>
   obtain⟨cur,_,hle,_⟩:=h
   exact run_append_nothing w t t' ty T i Y hi (some ⟨b,0,none⟩) n cap hle _ hs
 have Lz: ∀old,old<n+m->Builtin.nextslicecap (n+m) old*i.bytes<=281474976710656:=fun old ho=>growslice_fits ho hbytes
 -- a new row
 have fresh: ∀(base:Option Addr) (olds:List Value),M l cap n= .slice base n cap->olds=cells->cap<n+m->(Builtin.firstCells i.size n (.slice base n cap)).run P w.drew= .ok olds.toArray w.drew->cells.length=n*i.size->
   ∃l' cap' w',(Builtin.append_ #[t,t'] ty #[M l cap n,x]).run P w= .ok (M l' cap' (n+m)) w' /\sF w' T i.size l' cap' (n+m) (cells++news)/\KU l w w' /\(∀b,l' =some b->l=some b\/w.heap.size<=b)/\(∀b,l=some b->l' ≠some b->w'.heap[b]? =w.heap[b]?):=by
  intro base olds hv he K hf hcl
  subst he
  have hr:=run_append_grow_src (P:=P) w t t' ty T i zv Y hi h3 base n cap olds hf x m news hs K (by omega) (Lz cap K)
  have hge:=grownCap_ge w (n+m) cap T
  rw [<-hv]at hr
  refine⟨some w.heap.size,grownCap w (n+m) cap T,_,hr,⟨_,yE w.drew _,hge,grownCap_le_maxLen _ _ _ _ (by simp only [maxLen];omega),?_,?_⟩,⟨rfl,rfl,rfl,Nat.le_succ _,by simp,fun k hk _=>?_⟩,fun b D=> .inr (vT (kP D)),fun b D _=>?_⟩
  ·have:(Builtin.zeroCells zv.cells (grownCap w (n+m) cap T-(n+m))).size=(grownCap w (n+m) cap T-(n+m))*i.size:=by
    rw [size_zeroCells,h4];simp [hz2]
   simp only [Array.size_append,CL,j6,hcl,hnl,this]
   rw [<-rY,<-rY]
   congr 1;omega
  ·have hl2:(olds++news).length=(n+m)*i.size:=by rw [j6,hcl,hnl,rY]
   rw [Array.toList_append,IF (by simp only [List.toList_toArray];omega)]
   simp only [List.toList_toArray]
   exact Ae (by omega)
  ·exact i9 (w:=w.drew) hk
  ·cases l with
   |none=>cases D
   |some b0=>
    have hb' :b0=b:=kP D
    subst hb'
    exact i9 (w:=w.drew) (sF.lt h)
 cases l with
 |none=>
  obtain⟨rfl,rfl⟩:=h
  have:=run_append_grow_src (P:=P) w t t' ty T i zv Y hi h3 none 0 0 [] (run_firstCells_none w.drew i.size 0 0 0) x m news hs (by omega) (by omega) (Lz 0 (by omega))
  have hge:=grownCap_ge w (0+m) 0 T
  refine⟨some w.heap.size,grownCap w (0+m) 0 T,_,this,⟨_,yE w.drew _,hge,grownCap_le_maxLen _ _ _ _ (by simp only [maxLen];omega),?_,?_⟩,⟨rfl,rfl,rfl,Nat.le_succ _,by simp,fun k hk _=>?_⟩,fun b D=> .inr (vT (kP D)),fun b D=>(by cases D)⟩
  ·have:(Builtin.zeroCells zv.cells (grownCap w (0+m) 0 T-(0+m))).size=(grownCap w (0+m) 0 T-(0+m))*i.size:=by
    rw [size_zeroCells,h4];simp [hz2]
   simp only [Array.size_append,CL,yF,hnl,this]
   rw [<-rY]
   congr 1;omega
  ·rw [Array.toList_append,IF (by simp [hnl])]
   simp only [yF,qr]
   exact Ae (by omega)
  ·exact i9 (w:=w.drew) hk
 |some b=>
  obtain⟨cur,D,hle,hmax,hcs,hct⟩:=h
  have hcl:cells.length=n*i.size:=by
   rw [<-hct,wv,yH,hcs]
   exact tB (sJ _ hle)
  by_cases hroom:n+m<=cap
  ·have hfit:n*i.size+news.length<=cur.size:=by rw [hnl,hcs,<-rY];exact sJ _ hroom
   have hr:=si (t:=t) (tx:=t') (ty:=ty) Y hi D hs hroom hfit
   refine⟨some b,cap,_,hr,⟨_,setRow_heap w b cur _ T _ D,hroom,hmax,?_,?_⟩,⟨rfl,rfl,rfl,gP _,by simp [World.setRow],fun k hk hkb=>setRow_other w b k _ (fun e=>hkb (by rw [e]))⟩,fun b' hb' => .inl hb',fun b' hb' hne=>absurd hb' hne⟩
   ·simp only [CL,j6,wv,Ac,yH]
    omega
   ·rw [hct,rY,<-hnl,<-hcl,show cells.length+news.length=(cells++news).length from by simp]
    exact List.take_left
  ·refine fresh (some ⟨b,0,none⟩) cells rfl rfl (by omega) (run_firstCells_some w.drew i.size n ⟨b,0,none⟩ n cap cells hcl fun j v hv=>?_) hcl
   have hj:j<cells.length:=(mO.1 hv).1
   have hcell:w.cell? ⟨b,j,none⟩=cur[j]? :=rN D j
   rw [fc]
   show w.cell? ⟨b,0+j,none⟩=_
   rw [qr,hcell]
   rw [<-hct,uV (by omega)]at hv
   simpa using hv
def qF{P:Program}{r:Rp α}{e' :TypeId}(Y:P.underlying t' =some (.slice e'))(hs:hY w S)(hv:(V (dz r) ys).p S v): ∃news,Src P r.sz t' v ys.length news w/\mL r S news ys:=by
 obtain⟨ad,c2,rfl,hcap,hmax,hsl⟩:=ik.1 hv
 rcases hsl with rfl|⟨b,off,c,U,fr,e1,e2,e3⟩
 ·refine⟨[],?_,rfl⟩
  cases ad with
  |none=>exact .ofNil w Y c2
  |some a=>exact .ofSlice w Y a 0 c2 [] (by simp) (fun j u hu=>by simp at hu) (fun u hu=>by cases hu)
 ·subst e1
  obtain⟨c',h4,h5⟩:=hs.part e2 (gX e3)
  refine⟨_,.ofSlice w Y ⟨b,off,none⟩ ys.length c2 _ (gX e3) (fun j u hu=>?_) (ue e3),e3⟩
  rw [fc,rN h4]
  rw [<-h5]at hu
  have hj:j<ys.length*r.sz:=by
   have:=(mO.1 hu).1
   simp at this;omega
  rw [uV hj,sd]at hu
  simpa using hu
variable{mm:Bool}
def qM{P:Program}{r:Rp α}{t ty:TypeId}{sz:Nat}{agg:Bool}{base:Nat}{B:Nat->Prop}(ti:TI P T sz bytes agg z)(hsz:r.sz=sz)(hz:Nat.beq z.length sz=true)(h0:Nat.blt 0 sz=true)(h128:Nat.ble bytes 2048=true)(Y:P.underlying t=some (.slice T))(hs:hY w S)(h:(gL mm r T l cap xs).holds base B w S)(D:base<=w.heap.size)(hsrc:Src P r.sz t' v ys.length news w)(hrc:mL r S news ys)(hz' :mM xs ys=some zs):
  ∃l' cap' w' S',(Builtin.append_ #[t,t'] ty #[M l cap xs.length,v]).run P w= .ok (M l' cap' zs.length) w' /\gj (fun k=>l=some k) w S w' S' /\hY w' S' /\(gL mm r T l' cap' zs).holds base B w' S' /\(∀b,l' =some b->l=some b\/w.heap.size<=b):=by
 subst hsz
 obtain⟨rfl,hlen⟩:=Im hz'
 obtain⟨⟨cells,H,J,h3⟩,hbase⟩:=h
 obtain⟨l',cap',w',hr,hraw,K,hnew,hold⟩:=xD (ty:=ty) ti hz h0 h128 Y H hsrc hlen
 have hrc' :mL r S (cells++news) (xs++ys):=nI J hrc
 -- what stood settled stands
 have hsat0: ∀k o,S k=some o-> ∃o',w'.heap[k]? =some o' /\yD o o' :=fun k o hk=>by
  have hlt:=hs.lt hk
  by_cases hkl:l=some k
  ·obtain⟨o',e1,e2⟩:=hs k o hk
   by_cases hkl' :l' =some k
   ·subst hkl'
    subst hkl
    have h3' :=h3 k rfl
    cases mm with
    |false=>rw [h3']at hk;cases hk
    |true=>
     rw [h3']at hk
     cases hk
     obtain⟨cur',g1,g2,g3,g4,g5⟩:=hraw
     refine⟨_,g1,?_⟩;refine⟨news++cur'.toList.drop ((xs.length+ys.length)*r.sz),?_⟩
     congr 1
     apply Array.ext'
     rw [<-sa,<-g5,o8]
   ·rw [hold k hkl hkl'];exact hs k o hk
  ·rw [K.heap k hlt hkl];exact hs k o hk
 have hsat:hY w' S:=⟨hsat0,hs.gl,hs.tb⟩
 have hSn: ∀b,l' =some b->l≠some b->S b=none:=fun b hb' hne=>by
  cases hq:S b with
  |none=>rfl
  |some q=>
   have:=hs.lt hq
   rcases hnew b hb' with h|h
   ·exact absurd h hne
   ·omega
 have hbase' : ∀k,l' =some k->base<=k\/B k:=fun k hk=>by
  rcases hnew k hk with h|h
  ·exact hbase k h
  ·exact .inl (by omega)
 have hz2:(xs++ys).length=xs.length+ys.length:=j6
 cases mm with
 |false=>
  refine⟨l',cap',w',S,by rw [hz2];exact hr,⟨K.os,K.tape,K.output,K.drawn,K.size,fun k hk hkb=>K.heap k hk hkb,SH.le_refl _,fun _ _ _=>rfl⟩,hsat,⟨⟨cells++news,by rw [hz2];exact hraw,hrc',fun b hb' =>?_⟩,hbase'⟩,hnew⟩
  by_cases hlb:l=some b
  ·exact h3 b hlb
  ·exact hSn b hb' hlb
 |true=>
  cases l' with
  |none=>
   refine⟨none,cap',w',S,by rw [hz2];exact hr,⟨K.os,K.tape,K.output,K.drawn,K.size,fun k hk hkb=>K.heap k hk hkb,SH.le_refl _,fun _ _ _=>rfl⟩,hsat,⟨⟨cells++news,by rw [hz2];exact hraw,hrc',fun b hb' =>(by cases hb')⟩,hbase'⟩,hnew⟩
  |some g=>
   have hq3: ∀q,S g=some q->yD q (.cells (cells++news).toArray T (0,0)):=fun q hq=>by
    by_cases hlb:l=some g
    ·have h4:S g=some (.cells cells.toArray T (0,0)):=h3 g hlb
     rw [h4]at hq
     cases hq
     exact⟨news,by simp⟩
    ·rw [hSn g rfl hlb]at hq;cases hq
   have hle:lu S (S.set g (.cells (cells++news).toArray T (0,0))):=rP hq3
   obtain⟨cur',g1,g2,g3,g4,g5⟩:=hraw
   refine⟨some g,cap',w',S.set g (.cells (cells++news).toArray T (0,0)),by rw [hz2];exact hr,⟨K.os,K.tape,K.output,K.drawn,K.size,fun k hk hkb=>K.heap k hk hkb,hle,fun k hk hkb=>lY _ _ ?_⟩,hsat.set g1 ?_ hq3,⟨⟨cells++news,by rw [hz2];exact⟨cur',g1,g2,g3,g4,g5⟩,mv hle hrc',fun b hb' =>?_⟩,hbase'⟩,hnew⟩
   ·rintro rfl
    rcases hnew k rfl with h|h
    ·exact hkb h
    ·omega
   ·refine⟨cur'.toList.drop ((xs.length+ys.length)*r.sz),?_⟩
    congr 1
    apply Array.ext'
    rw [<-g5,o8]
   ·have hb2:g=b:=kP hb'
    subst hb2
    exact jN _ _ _

def D5{e f:OE}(h:e.apart f):f.apart e:=fun b D he=>h b he D
def cr.swap{base:Nat}{B:Nat->Prop}{e f:OE}(h:cr base B w S (e::f::O)):cr base B w S (f::e::O):=by
 obtain⟨H,J,h3,h4,h5⟩:=h
 refine⟨h3,?_,H,?_,h5⟩
 ·intro g K
  rcases mJ.1 K with rfl|K
  ·exact D5 (J _ (oh ..))
  ·exact h4 g K
 ·intro g K
  exact J g (oj _ K)
def iI{base:Nat}{B:Nat->Prop}{e:OE}{O' :List OE}(h:cr base B w S (e::O))(k:cr base B w S O->cr base B w S O')(hm: ∀f∈O',f∈O):cr base B w S (e::O'):=
 ⟨h.1,fun f hf=>h.2.1 f (hm f hf),k h.2.2⟩
def mb{base:Nat}{B:Nat->Prop}{a b c:OE}(h:cr base B w S (a::b::c::O)):cr base B w S (c::a::b::O):=
 (iI h cr.swap (fun f hf=>by simp only [mJ]at hf ⊢;rcases hf with h|h|h<;>simp [h])).swap
def oa{base:Nat}{B:Nat->Prop}{a b c ac:OE}(h:cr base B w S (a::b::c::ac::O)):cr base B w S (ac::a::b::c::O):=
 (iI h mb (fun f hf=>by simp only [mJ]at hf ⊢;rcases hf with h|h|h|h<;>simp [h])).swap
def n9{base:Nat}{B:Nat->Prop}{a b c ac e:OE}(h:cr base B w S (a::b::c::ac::e::O)):cr base B w S (e::a::b::c::ac::O):=
 (iI h oa (fun f hf=>by simp only [mJ]at hf ⊢;rcases hf with h|h|h|h|h<;>simp [h])).swap

section
variable{E:En}
def St.own_map{O' :List OE}(h:St E O G a w S)(k:cr E.base E.B w S O->cr E.base E.B w S O'):St E O' G a w S:=⟨h.ext,h.sat,k h.own,h.facts⟩
def St.base_le(h:St E O G a w S):E.base<=w.heap.size:=h.ext.size
def St.drop{e:OE}(h:St E (e::O) G a w S):St E O G a w S:=h.own_map fun h=>h.2.2
def St.fresh(mm:Bool)(r:Rp α)(T:TypeId)(h:St E O G a w S):St E (gL mm r T none 0 []::O) G a w S:=
 h.own_map fun h=>by refine⟨⟨⟨[],⟨rfl,rfl⟩,rfl,fun b D=>(by cases D)⟩,fun k hk=>?_⟩,fun f _ b D=>?_,h⟩<;>(first|cases hk|cases D)
def sY{e:OE}{b:Nat}{o:Obj}(h:St E (e::O) G a w S)(D:e.fp b)(ho:w.heap[b]? =some o')(hoo:yD o o')(hn:S b=none):St E O G a w (S.set b o)/\lu S (S.set b o)/\gj (fun k=>k=b) w S w (S.set b o)/\hY w (S.set b o):=by
 have hbase:=h.own.1.2 b D
 have hle:lu S (S.set b o):=rP fun q hq=>(by rw [hn]at hq;cases hq)
 have hsat:hY w (S.set b o):=h.sat.set ho hoo fun q hq=>by rw [hn]at hq;cases hq
 have hext:gj (fun k=>k=b) w S w (S.set b o):=⟨rfl,rfl,rfl,gP _,gP _,fun _ _ _=>rfl,hle,fun k _ hk=>lY _ _ hk⟩
 refine⟨⟨h.ext.step hext fun c hc=>by subst hc;exact hbase,hsat,h.own.2.2.ext hext fun f hf c hc hm=>?_,h.facts.mono hle⟩,hle,hext,hsat⟩
 subst hm
 exact h.own.2.1 f hf c D hc
def tO{α:Type}(r:Rp α)(l:Option Nat)(cap:Nat)(xs:List α):Ty where
 p:=fun S v=>v=M l cap xs.length/\(V (dz r) xs).p S v
 mono:=fun h ⟨H,J⟩=>⟨H,Ty.mono _ h J⟩
def sQ{N:Fr}{G:io}{r:Rp α}(h:ax N G x (tO r l cap xs)):ax N G x (tV (M l cap xs.length)):=fun S a hf=>(h S a hf).1
def kS{N:Fr}{G:io}{r:Rp α}(h:ax N G x (tO r l cap xs)):ax N G x (V (dz r) xs):=fun S a hf=>(h S a hf).2
def ir{r:Rp α}{w:World}{S:SH}(h:sm true r T l cap xs w S):(V (dz r) xs).p S (M l cap xs.length):=by
 obtain⟨cells,H,J,h3⟩:=h
 cases l with
 |none=>
  have A:xs=[]:=uX H.1
  subst A
  exact tQ
 |some b=>
  obtain⟨cur,g1,g2,g3,g4,g5⟩:=H
  refine ik.2 ⟨_,cap,rfl,g2,g3,.inr ⟨b,0,cells.toArray,T,(0,0),rfl,h3 b rfl,?_⟩⟩
  have:=gX J
  rw [r0,Ae (by simp [this])]
  exact J
def St.freeze{r:Rp α}(h:St E (eg r T l cap xs::O) G a w S):
  ∃S',St E (Z r T l cap xs::O) G a w S' :=by
 obtain⟨⟨cells,H,J,h3⟩,hbase⟩:=h.own.1
 cases l with
 |none=>exact⟨S,h.ext,h.sat,⟨⟨⟨cells,H,J,fun b D=>(by cases D)⟩,hbase⟩,h.own.2⟩,h.facts⟩
 |some b=>
  obtain⟨cur,g1,g2,g3,g4,g5⟩:=H
  have hoo:yD (.cells cells.toArray T (0,0)) (.cells cur T (0,0)):=by
   refine⟨cur.toList.drop (xs.length*r.sz),?_⟩
   congr 1
   apply Array.ext'
   rw [<-g5,o8]
  obtain⟨h8,hle,_,_⟩:=sY h rfl g1 hoo (h3 b rfl)
  refine⟨_,h8.ext,h8.sat,⟨⟨⟨cells,⟨cur,g1,g2,g3,g4,g5⟩,mv hle J,fun b' hb' =>?_⟩,hbase⟩,h.own.2.1,h8.own⟩,h8.facts⟩
  have hb2:b=b' :=kP hb'
  subst hb2
  exact jN _ _ _
def St.settle{r:Rp α}(h:St E (gL mm r T l cap xs::O) G a w S):
  ∃S',St E O G a w S' /\(V (dz r) xs).p S' (M l cap xs.length):=by
 cases mm with
 |true=>exact⟨S,h.drop,ir h.own.1.1⟩
 |false=>
  obtain⟨S',H⟩:=h.freeze
  exact⟨S',H.drop,ir H.own.1.1⟩
end

section
variable{E:En}{e:Exit}
def DK{N:Fr}(h:cH N S a G)(hk:t.p S (a.tmps.getD k undef)):cH N S a ((k,t)::G):=
 ⟨h.size,h.defers,fun j u hj=>by
  unfold look at hj
  by_cases D:Nat.beq k j=true
  ·rw [D]at hj
   have:=kR D
   subst this
   rw [<-show t=u from by simpa using hj];exact hk
  ·rw [uT]at D
   rw [D]at hj
   exact h.at_ j u hj⟩
def St.cons(h:St E O G a w S)(hk:t.p S (a.tmps.getD k undef)):St E O ((k,t)::G) a w S:=⟨h.ext,h.sat,h.own,DK h.facts hk⟩
def St.tipAt{r:Rp α}{n:Nat}(h:St E (Z r T l cap xs::O) G a w S)(hk:look G k=some (tV (M l cap n)))(hn:n=xs.length):
  St E (Z r T l cap xs::O) ((k,tO r l cap xs)::G) a w S:=by
 subst hn
 have hv:a.tmps.getD k undef=M l cap xs.length:=h.facts.at_ k _ hk
 exact h.cons ⟨hv,by rw [hv];exact ir h.own.1.1⟩
def bS(mm:Bool)(r:Rp α)(T:TypeId)(h:RG E ops ay rest (gL mm r T none 0 []::O) G):RG E ops ay rest O G:=fun a w S st=>h a w S (st.fresh mm r T)
def oT{f:OE}(h:RG E ops ay rest O G):RG E ops ay rest (f::O) G:=fun a w S st=>h a w S st.drop
def CG.drop{f:OE}(h:CG E ay c O G):CG E ay c (f::O) G:=fun a w S st=>h a w S st.drop
def aI{f:OE}(h:AT E ay e O G):AT E ay e (f::O) G:=fun a w S st=>h a w S st.drop
def cU{x y:OE}(h:RG E ops ay rest (y::x::O) G):RG E ops ay rest (x::y::O) G:=fun a w S st=>h a w S (st.own_map cr.swap)
def dp{x y:OE}(h:AT E ay e (y::x::O) G):AT E ay e (x::y::O) G:=fun a w S st=>h a w S (st.own_map cr.swap)
def gS{x y z:OE}(h:RG E ops ay rest (z::x::y::O) G):RG E ops ay rest (x::y::z::O) G:=fun a w S st=>h a w S (st.own_map mb)
def GF{x y z:OE}(h:CG E ay c (z::x::y::O) G):CG E ay c (x::y::z::O) G:=fun a w S st=>h a w S (st.own_map mb)
def fY{x y z:OE}(h:AT E ay e (z::x::y::O) G):AT E ay e (x::y::z::O) G:=fun a w S st=>h a w S (st.own_map mb)
def ma{x y z:OE}(h:RG E ops ay rest (u::x::y::z::O) G):RG E ops ay rest (x::y::z::u::O) G:=fun a w S st=>h a w S (st.own_map oa)
def kO{x y z:OE}(h:AT E ay e (u::x::y::z::O) G):AT E ay e (x::y::z::u::O) G:=fun a w S st=>h a w S (st.own_map oa)
def rQ{x y z v:OE}(h:RG E ops ay rest (v::x::y::z::u::O) G):RG E ops ay rest (x::y::z::u::v::O) G:=fun a w S st=>h a w S (st.own_map n9)
def j4{x y z v:OE}(h:AT E ay e (v::x::y::z::u::O) G):AT E ay e (x::y::z::u::v::O) G:=fun a w S st=>h a w S (st.own_map n9)
def qg{f:OE}(h:LG E ay c O G):LG E ay c (f::O) G:=fun a w S st=>h a w S st.drop
def fg{x y:OE}(h:LG E ay c (y::x::O) G):LG E ay c (x::y::O) G:=fun a w S st=>h a w S (st.own_map cr.swap)
def jd{x y z:OE}(h:LG E ay c (z::x::y::O) G):LG E ay c (x::y::z::O) G:=fun a w S st=>h a w S (st.own_map mb)
def pt{x y z:OE}(h:LG E ay c (u::x::y::z::O) G):LG E ay c (x::y::z::u::O) G:=fun a w S st=>h a w S (st.own_map oa)
def vO{x y z v:OE}(h:LG E ay c (v::x::y::z::u::O) G):LG E ay c (x::y::z::u::v::O) G:=fun a w S st=>h a w S (st.own_map n9)
def jc{r:Rp α}(h:RG E ops ay rest (Z r T l cap xs::O) G):RG E ops ay rest (eg r T l cap xs::O) G:=fun a w _ st=>let⟨S',st'⟩:=st.freeze;h a w S' st'
def lv{r:Rp α}{n:Nat}(k:Nat)(hk:look G k=some (tV (M l cap n)))(h:RG E ops ay rest (Z r T l cap xs::O) ((k,tO r l cap xs)::G))(hn:n=xs.length:=by rfl):RG E ops ay rest (Z r T l cap xs::O) G:=fun a w S st=>h a w S (st.tipAt hk hn)
def Ix{r:Rp α}{n:Nat}(k:Nat)(hk:look G k=some (tV (M l cap n)))(h:CG E ay c (Z r T l cap xs::O) ((k,tO r l cap xs)::G))(hn:n=xs.length:=by rfl):CG E ay c (Z r T l cap xs::O) G:=fun a w S st=>h a w S (st.tipAt hk hn)
def nt{r:Rp α}(h:AT E ay e (Z r T l cap xs::O) G):AT E ay e (eg r T l cap xs::O) G:=fun a w _ st=>let⟨S',st'⟩:=st.freeze;h a w S' st'
def fN{r:Rp α}{n:Nat}(k:Nat)(hk:look G k=some (tV (M l cap n)))(h:AT E ay e (Z r T l cap xs::O) ((k,tO r l cap xs)::G))(hn:n=xs.length:=by rfl):AT E ay e (Z r T l cap xs::O) G:=fun a w S st=>h a w S (st.tipAt hk hn)
def GC{r:Rp α}(h:LG E ay c (Z r T l cap xs::O) G):LG E ay c (eg r T l cap xs::O) G:=fun a w _ st=>let⟨S',st'⟩:=st.freeze;h a w S' st'
def Iu{r:Rp α}{n:Nat}(k:Nat)(hk:look G k=some (tV (M l cap n)))(h:LG E ay c (Z r T l cap xs::O) ((k,tO r l cap xs)::G))(hn:n=xs.length:=by rfl):LG E ay c (Z r T l cap xs::O) G:=fun a w S st=>h a w S (st.tipAt hk hn)
def aQ{r:Rp α}(hk:look G k=some (V (dz r) xs))(h:xs.length<=maxLen->CG E ay c O G):CG E ay c O G:=fun a w S st=>by
 obtain⟨_,_,_,H,J,_⟩:=ik.1 (st.facts.at_ k _ hk)
 exact h (iZ H J) a w S st

section
variable{ty:TypeId}
def St.append{r:Rp α}{t ty:TypeId}{sz:Nat}{agg:Bool}(ti:TI E.P T sz bytes agg z)(hsz:r.sz=sz)(hz:Nat.beq z.length sz=true)(h0:Nat.blt 0 sz=true)(h128:Nat.ble bytes 2048=true)(Y:E.P.underlying t=some (.slice T))(st:St E (gL mm r T l cap xs::O) G a w S)(hsrc:Src E.P r.sz t' v ys.length news w)(hrc:mL r S news ys)(happ:mM xs ys=some zs):
  ∃l' cap' w' S',(Builtin.append_ #[t,t'] ty #[M l cap xs.length,v]).run E.P w= .ok (M l' cap' zs.length) w' /\St E (gL mm r T l' cap' zs::O) G a w' S' :=by
 obtain⟨l',cap',w',S',hr,hext,hsat,hh,hnew⟩:=qM (ty:=ty) ti hsz hz h0 h128 Y st.sat st.own.1 st.base_le hsrc hrc happ
 refine⟨l',cap',w',S',hr,st.ext.step hext fun b D=>st.own.1.2 b D,hsat,⟨hh,fun f hf b D hfb=>?_,st.own.2.2.ext hext fun f hf b D hbl=>st.own.2.1 f hf b hbl D⟩,st.facts.mono hext.keep⟩
 rcases hnew b D with h|h
 ·exact st.own.2.1 f hf b h hfb
 ·have:=f.here (cr.mem st.own.2.2 f hf).1 b hfb
  omega
def St.put{ac:Nat}(h:St E O G a w S)(hd:Nat.blt ac E.N.n=true)(hv:t.p S v):St E O ((ac,t)::G) (a.put (some ac) v) w S:=⟨h.ext,h.sat,h.own,h.facts.put hd hv⟩
def tp{r:Rp α}{t:TypeId}{sz:Nat}{agg:Bool}{n:Nat}{u:Nat->Option Nat->Ty}(ti:TI E.P T sz bytes agg z)(hsz:r.sz=sz)(hz:Nat.beq z.length sz=true)(h0:Nat.blt 0 sz=true)(h128:Nat.ble bytes 2048=true)(Y:E.P.underlying t=some (.slice T))(hd:Nat.blt ac E.N.n=true)(A:ax E.N G x (tV (M l cap n)))(hy: ∀a w S,St E (gL mm r T l cap xs::O) G a w S-> ∃news,Src E.P r.sz t' (a.eval y) ys.length news w/\mL r S news ys)(happ:mM xs ys=some zs)(hu: ∀l' cap' w0 S,(gL mm r T l' cap' zs).p w0 S->(u cap' l').p S (M l' cap' zs.length))(k: ∀l' cap',RG E ops ay rest (gL mm r T l' cap' zs::O) ((ac,u cap' l')::G))(hn:n=xs.length):
  RG E ops ay (⟨some ac,.call ⟨.builtin .append,#[x,y],#[t,t']⟩,ty,pos,after,none⟩::rest) (gL mm r T l cap xs::O) G:= .of rfl fun a w S st=>by
 subst hn
 have H:a.eval x=M l cap xs.length:=A S a st.facts
 obtain⟨news,J,h3⟩:=hy a w S st
 obtain⟨l',cap',w',S',hr,st'⟩:=st.append (ty:=ty) ti hsz hz h0 h128 Y J h3 happ
 have hrun:(execOp a.eval ⟨some ac,.call ⟨.builtin .append,#[x,y],#[t,t']⟩,ty,pos,after,none⟩).run E.P w= .ok (.value (M l' cap' zs.length)) w' :=by
  simp [execOp,resolve,invoke,builtin,H,hr]
 refine⟨fun c h=>(by cases h),?_⟩
 rw [hrun]
 exact k l' cap' _ _ S' (st'.put hd (hu l' cap' w' S' st'.own.1.1))
def dH{r:Rp α}{t:TypeId}{sz:Nat}{agg:Bool}{n:Nat}(ti:TI E.P T sz bytes agg z)(hsz:r.sz=sz)(hz:Nat.beq z.length sz=true)(h0:Nat.blt 0 sz=true)(h128:Nat.ble bytes 2048=true)(Y:E.P.underlying t=some (.slice T))(ht' :t' =t)(hd:Nat.blt ac E.N.n=true)(A:ax E.N G x (tV (M l cap n)))(hy:ax E.N G y (V (dz r) ys))(happ:mM xs ys=some zs)(k: ∀l' cap',RG E ops ay rest (eg r T l' cap' zs::O) ((ac,tV (M l' cap' zs.length))::G))(hn:n=xs.length:=by rfl):
  RG E ops ay (⟨some ac,.call ⟨.builtin .append,#[x,y],#[t,t']⟩,ty,pos,after,none⟩::rest) (eg r T l cap xs::O) G:=by
 subst ht'
 exact tp (u:=fun cap' l' =>tV (M l' cap' zs.length)) ti hsz hz h0 h128 Y hd A (fun a w S st=>qF Y st.sat (hy S a st.facts)) happ (fun _ _ _ _ _=>rfl) k hn
def n6{r:Rp α}{t:TypeId}{sz:Nat}{agg:Bool}(ti:TI E.P T sz bytes agg z)(hsz:r.sz=sz)(hz:Nat.beq z.length sz=true)(h0:Nat.blt 0 sz=true)(h128:Nat.ble bytes 2048=true)(Y:E.P.underlying t=some (.slice T))(ht' :t' =t)(hd:Nat.blt ac E.N.n=true)(A:ax E.N G x (tO r l cap xs))(hy:ax E.N G y (V (dz r) ys))(happ:mM xs ys=some zs)(k: ∀l' cap',RG E ops ay rest (Z r T l' cap' zs::O) ((ac,tO r l' cap' zs)::G)):
  RG E ops ay (⟨some ac,.call ⟨.builtin .append,#[x,y],#[t,t']⟩,ty,pos,after,none⟩::rest) (Z r T l cap xs::O) G:=by
 subst ht'
 exact tp (u:=fun cap' l' =>tO r l' cap' zs) ti hsz hz h0 h128 Y hd (sQ A) (fun a w S st=>qF Y st.sat (hy S a st.facts)) happ (fun _ _ _ _ h=>⟨rfl,ir h⟩) k rfl
end
end

def uw(off:Nat): ∀(cs:List Value) (k:Nat) (pre mid post:List Value),mid.length=cs.length->pre.length=off+k->
  (cs.zipIdx k).foldl (fun(a:Array Value) x=>a.setIfInBounds (off+x.2) x.1) (pre++mid++post).toArray=(pre++cs++post).toArray
 |[],k,pre,mid,post,hm,_=>by
  have:mid=[]:=uX hm
  subst this;simp
 |c::cs,k,pre,mid,post,hm,hp=>by
  cases mid with
  |nil=>simp at hm
  |cons m mid=>
   simp only [List.zipIdx_cons,List.foldl_cons]
   have H:(pre++(m::mid)++post).toArray.setIfInBounds (off+k) c=((pre++[c])++mid++post).toArray:=by
    rw [<-hp]
    simp
   rw [H,uw off cs (k+1) (pre++[c]) mid post (by simpa using hm) (by simp;omega)]
   simp
def tU(v:Value)(off:Nat)(pre mid post:List Value)(hm:mid.length=v.cells.size)(hp:pre.length=off):
  v.cells.zipIdx.foldl (fun cs (x:Value×Nat)=>cs.setIfInBounds (off+x.2) x.1) (pre++mid++post).toArray=(pre++v.cells.toList++post).toArray:=by
 have:=uw off v.cells.toList 0 pre mid post (by simpa using hm) (by simpa using hp)
 rw [<-this,<-Array.foldl_toList]
 simp [Array.toList_zipIdx]
def pc{r:Rp α}{x:α}(h:r.rc S cs x):(r.val cs).cells=cs.toArray:=by
 unfold Rp.val
 cases ha:r.agg with
 |true=>simp [Value.cells]
 |false=>
  have hl:=r.len h
  rw [r.sc ha]at hl
  match cs,hl with
  |[c],_=>
   have:=r.one h c (by simp)
   cases c<;>simp_all [Value.cells,Value.oneCell']
def wj:Nat->List Value->List (Nat×Value)
 |_,[]=>[]
 |k,v::vs=>(k,v)::wj (k+1) vs
def ya{α:Type}{r:Rp α}{S:SH}: ∀(ys:List α) (vs:List Value) (k:Nat) (pre zs:List Value),sn S (ys.map (V r)) vs->pre.length=k*r.sz->zs.length=ys.length*r.sz->
  ∃cs,mL r S cs ys/\Instr.fill (fun i=>some (i*r.sz,r.sz)) (pre++zs).toArray (wj k vs)=some (pre++cs).toArray
 |[],[],k,pre,zs,_,_,hz=>by
  have:zs=[]:=uX (by simpa using hz)
  subst this
  exact⟨[],rfl,by simp [wj,Instr.fill]⟩
 |y::ys,v::vs,k,pre,zs,⟨⟨c,e,hc⟩,J⟩,hp,hz=>by
  have hl:=r.len hc
  have hz' :r.sz<=zs.length:=by rw [hz,Aa,rY];omega
  have e1:zs=zs.take r.sz++zs.drop r.sz:=(o8 _ _).symm
  have hcells:v.cells=c.toArray:=by rw [e];exact pc hc
  obtain⟨cs,h3,h4⟩:=ya ys vs (k+1) (pre++c) (zs.drop r.sz) J (by rw [j6,hp,hl,rY];omega) (by rw [Ac,hz,Aa,rY];omega)
  refine⟨c++cs,⟨c,cs,rfl,hc,h3⟩,?_⟩
  have hs:v.cells.size=r.sz:=by rw [hcells];simpa using hl
  have hcond: ¬((v.cells.size≠r.sz)\/(k*r.sz+v.cells.size>(pre++zs).toArray.size)):=by
   simp [hs];omega
  have h5:=tU v (k*r.sz) pre (zs.take r.sz) (zs.drop r.sz) (by simp [hs];omega) hp
  rw [sa,<-e1]at h5
  simp only [wj,Instr.fill]
  rw [cS (by simpa using hcond)]
  rw [h5,hcells]
  simpa using h4
def sD:Nat->List Operand->List (Nat×Operand)
 |_,[]=>[]
 |k,v::vs=>(k,v)::sD (k+1) vs
def vE(ρ:Operand->Value): ∀(k:Nat) (xs:List Operand),(sD k xs).map (fun x=>(x.1,ρ x.2))=wj k (xs.map ρ)
 |_,[]=>rfl
 |k,x::xs=>by simp [sD,wj,vE ρ (k+1) xs]

section
variable{E:En}{ty:TypeId}
def qL{P:Program}{r:Rp α}{xs:List Operand}{ρ:Operand->Value}{t:TypeId}{n sz:Nat}{agg:Bool}(Y:P.underlying t=some (.slice T))(ti:TI P T sz bytes agg z)(hsz:r.sz=sz)(hn:n=ys.length)(D:Nat.ble (n*sz) 16777216=true)(A:sn S (ys.map (V r)) (xs.map ρ))(w:World):
  ∃cs,mL r S cs ys/\(Instr.buildSlice t n ((sD 0 xs).toArray.map fun x=>(x.1,ρ x.2))).run P w= .ok (.slice (some ⟨w.heap.size,0,none⟩) n n) (w.alloc (.cells cs.toArray T (0,0))):=by
 subst hsz
 have hb' :=mP D
 obtain⟨zv,hzr,_⟩:=ti.zero w
 obtain⟨cs,hc,hfill⟩:=ya ys (xs.map ρ) 0 [] ((Array.range (n*r.sz)).map (fun i=>(if n*r.sz=0 then #[]else zv.cells)[i%(if n*r.sz=0 then #[]else zv.cells).size]!)).toList A (by simp) (by simp [hn])
 refine⟨cs,hc,?_⟩
 have hparts:((sD 0 xs).toArray.map fun x=>(x.1,ρ x.2)).toList=wj 0 (xs.map ρ):=by simp [vE]
 simp only [yF,Array.toArray_toList]at hfill
 have hle: ¬(n*r.sz>2^24):=by omega
 by_cases hn0:n*r.sz=0
 ·simp only [hn0,qw]at hfill
  simp only [Instr.buildSlice,mi,mK Y,m6,ti.sizeOf,Sem.run_ite,hn0,qw,xd,hparts,hfill]
  simp [newRow]
 ·simp only [hn0,nu]at hfill
  simp only [Instr.buildSlice,mi,mK Y,m6,ti.sizeOf,Sem.run_ite,hle,nu,hn0,xd,hzr,hparts,hfill]
  simp [newRow]
def aW{r:Rp α}{xs:List Operand}{parts:List (Nat×Operand)}{t:TypeId}{n sz:Nat}{agg:Bool}(Y:E.P.underlying t=some (.slice T))(ti:TI E.P T sz bytes agg z)(hsz:r.sz=sz)(h0:Nat.blt 0 sz=true)(hp:parts=sD 0 xs)(hn:n=ys.length)(D:Nat.ble (n*sz) 16777216=true)(A:fM E.N G xs (ys.map (V r))):bE E O G ⟨dst,.buildSlice t n parts.toArray,ty,pos,after,g⟩ (V (dz r) ys):=
 .of_run fun a w S hs _ hf=>by
  obtain⟨cs,hc,hr⟩:=qL Y ti hsz hn D (A.tys hf) w
  subst hsz
  have hb' :=mP D
  have h0' :0<r.sz:=by simpa [qx] using h0
  have hnle:n<=n*r.sz:=Nat.le_mul_of_pos_right n h0'
  obtain⟨he,hs'⟩:=oV (w:=w) (.cells cs.toArray T (0,0)) hs
  have hcl:=gX hc
  refine⟨.slice (some ⟨w.heap.size,0,none⟩) n n,_,_,?_,he,hs',ik.2 ⟨_,n,by rw [hn],by omega,by simp only [maxLen];omega,.inr ⟨w.heap.size,0,cs.toArray,T,(0,0),rfl,by simp [SH.set],?_⟩⟩⟩
  ·subst hp
   simp only [execOp,mi,hr,m6,xd]
  ·have:mL r (S.set w.heap.size (.cells cs.toArray T (0,0))) cs ys:=mv he.keep hc
   simpa [<-hcl] using this
def Dt{r:Rp α}{v:α}(A:ax E.N G x (V r v)):bE E O G ⟨dst,.box T x,ty,pos,after,g⟩ (bb r v):=
 .of_run fun a w S hs _ hf=>by
  obtain⟨cs,hv,hc⟩:=A S a hf
  obtain⟨he,hs'⟩:=oV (w:=w) (.cells cs.toArray T (0,0)) hs
  refine⟨.pointer (some ⟨w.heap.size,0,none⟩),_,_,?_,he,hs',w.heap.size,0,cs.toArray,T,(0,0),rfl,by simp [SH.set],?_⟩
  ·simp [execOp,Instr.box,newVar,newRow,hv,pc hc]
  ·have:=r.mono he.keep hc
   have hl:=r.len hc
   simpa [<-hl] using this
end

def j7(c:Bool)(t:Ty):Ty where
 p:=fun S v=>if c=true then t.p S v else v=undef
 mono:=fun h k=>by
  split
  ·rename_i hc;rw [fE hc]at k;exact t.mono h k
  ·rename_i hc;rw [cS hc]at k;exact k
variable{pol:Bool}
section
variable{E:En}
def bI{N:Fr}{c:Bool}(h:look G k=some (j7 c t))(hc:c=true):ax N G (.tmp k) t:=fun _ _ hF=>by
 have J:if c=true then t.p _ (Act.eval _ (.tmp k))else _=undef:=hF.at_ k _ h
 rw [fE hc]at J;exact J
def oI(c b:Bool):Ty:=j7 c (V rB b)
def oH(h:look G k=some (V rB b)):ax E.N G (.tmp k) (oI true b):=fun _ _ hF=>by
 have J:(V rB b).p _ (Act.eval _ (.tmp k)):=hF.at_ k _ h
 simp only [oI,j7,qw]
 exact J
def vm{c:Bool}(h:look G k=some (j7 c (V rB b))):ax E.N G (.tmp k) (oI c b):=fun _ _ hF=>hF.at_ k _ h
def xj{c:Bool}(K:o.guard=some (j,pol))(hj:(ops[j]?).bind (·.dst)=some gs)(hn:gs<a.tmps.size)(hv:(oI c b).p S (a.tmps.getD gs undef)):
  Region.wanted o (yielded ops a.tmps)=(c&&(b==pol)):=by
 have hget:a.tmps[gs]? =some (a.tmps.getD gs undef):=by
  rw [Bq,Array.getElem?_eq_getElem hn];rfl
 unfold Region.wanted
 rw [K]
 simp only [yielded,hj,eC,hget]
 cases c with
 |true=>
  have:a.tmps.getD gs undef= .bool b:=fZ.1 (by simpa [oI,j7] using hv)
  rw [this]
  cases b<;>cases pol<;>rfl
 |false=>
  have:a.tmps.getD gs undef=undef:=by simpa [oI,j7] using hv
  rw [this]
  cases pol<;>rfl
def Bj{c:Bool}{op:Op}{ty:TypeId}(hj:(ops[j]?).bind (·.dst)=some gs)(hgs:Nat.blt gs E.N.n=true)(K:ax E.N G (.tmp gs) (oI c b))(hd:Nat.blt ac E.N.n=true)(h:(c&&(b==pol))=true->bE E O G ⟨some ac,op,ty,pos,after,some (j,pol)⟩ t)(k:RG E ops ay rest O ((ac,j7 (c&&(b==pol)) t)::G)):
  RG E ops ay (⟨some ac,op,ty,pos,after,some (j,pol)⟩::rest) O G:=fun a w S st=>by
 have hgs' :gs<a.tmps.size:=by rw [st.facts.size];simpa [qx] using hgs
 have hw:=xj (o:=⟨some ac,op,ty,pos,after,some (j,pol)⟩) rfl hj hgs' (K S a st.facts)
 refine wpListIn_step fun hg hK=>?_
 rw [hw]
 by_cases hc:(c&&(b==pol))=true
 ·rw [fE hc]
  refine gT (fun a' w' ⟨v,S',ha,he,hs,hv⟩=>?_) (h hc a w S st.sat st.own st.facts)
  subst ha
  refine hK _ _ (k _ _ _ (st.step he hs hd ?_))
  simpa only [j7,hc,qw] using hv
 ·rw [cS hc]
  refine⟨fun _ _=>trivial,hK _ _ (k _ _ S (st.step (gj.refl _ _ _) st.sat hd ?_))⟩
  show if _ then _ else _
  rw [cS hc]
end

structure Nd where
 slot:Nat
 ty:Ty
 src:Option Nat
def ba(E:En)(O:List OE)(ops:Array Oper)(need:io)(o:Oper)(t:Ty):Prop:=
 ∀a w S,hY w S->cr E.base E.B w S O->cH E.N S a need->
  if Region.wanted o (yielded ops a.tmps)then BZ E.P o a w (fun a' w' => ∃v S',a' =a.put o.dst v/\gj oE w S w' S' /\hY w' S' /\t.p S' v)else t.p S undef
def fB:List Nd->io
 |[]=>[]
 |n::l=>(n.slot,n.ty)::fB l
def vV(o:Oper)(j:Nat):Bool:=o.after.toList.any fun e=>Nat.beq e.on j&&Region.binds .any e
def j8(l:List Oper)(o:Oper)(i:Nat)(n:Nd):Bool:=
 match n.src with
 |some j=>(match l[j]? with|some p=>(match p.dst with|some ac=>Nat.beq ac n.slot|none=>false)|none=>false)&&vV o j
 |none=>l.all fun p=>(match p.dst with|some ac=> !(Nat.beq ac n.slot)|none=>true)||vV p i
def rj(G:io)(ts:List Ty)(n:Nd):Prop:=
 match n.src with
 |some j=>ts[j]? =some n.ty
 |none=>look G n.slot=some n.ty
def mH(G:io)(ts:List Ty):List Nd->Prop
 |[]=>True
 |n::l=>rj G ts n/\mH G ts l
def mH.mem: ∀{l:List Nd},mH G ts l-> ∀n∈l,rj G ts n
 |_::_,⟨h,_⟩,_,.head _=>h
 |_::_,⟨_,h⟩,_,.tail _ hm=>mH.mem h _ hm
def J7(o:Oper):Nat:=o.dst.getD 0
def di(i:Nat)(o:Oper):Bool:=o.after.toList.all fun e=> !(Region.binds .any e)||Nat.blt e.on i
def DR(E:En)(O:List OE)(G:io)(l:List Oper)(ts:List Ty):Nat->List Oper->Prop
 |_,[]=>True
 |i,o::rest=>(∃(needs:List Nd) (t:Ty),ts[i]? =some t/\mH G ts needs/\(needs.all (j8 l o i))=true/\di i o=true/\ba E O l.toArray (fB needs) o t)/\DR E O G l ts (i+1) rest
def pC(N:Nat):List Nat->List Oper->Bool
 |_,[]=>true
 |seen,o::rest=>(match o.dst with|some ac=>Nat.blt ac N&& !(seen.any (Nat.beq ac))&&pC N (ac::seen) rest|none=>false)
def Qk(E:En)(O:List OE)(G:io)(l:List Oper)(ts:List Ty)(i:Nat)(o:Oper):Prop:=
 ∃(needs:List Nd) (t:Ty),ts[i]? =some t/\mH G ts needs/\(needs.all (j8 l o i))=true/\di i o=true/\ba E O l.toArray (fB needs) o t
def DR.get{E:En}{l:List Oper}(r:List Oper): ∀(k:Nat),DR E O G l ts k r-> ∀(j:Nat) (o:Oper),r[j]? =some o->Qk E O G l ts (k+j) o:=by
 induction r with
 |nil=>intro k _ j o h;simp at h
 |cons p r ih=>
  intro k h j o ho
  cases j with
  |zero=>simp at ho;subst ho;exact h.1
  |succ j=>
   have:=ih (k+1) h.2 j o (by simpa using ho)
   rwa [show k+1+j=k+(j+1)from by omega]at this
def qG{N:Nat}(l:List Oper): ∀(seen:List Nat),pC N seen l=true->
  (∀o:Oper,o∈l-> ∃ac,o.dst=some ac/\ac<N/\ac∉seen)/\ ∀(i j:Nat) (o p:Oper),l[i]? =some o->l[j]? =some p->o.dst=p.dst->i=j:=by
 induction l with
 |nil=>exact fun _ _=>⟨fun _ h=>(by cases h),fun _ _ _ _ h=>(by simp at h)⟩
 |cons o l ih=>
  intro seen h
  unfold pC at h
  cases hd:o.dst with
  |none=>rw [hd]at h;cases h
  |some ac=>
   rw [hd]at h
   simp only [lG,Ad]at h
   obtain⟨⟨H,J⟩,h3⟩:=h
   have h2' :ac∉seen:=fun hm=>by
    rw [List.any_eq_false]at J
    exact J ac hm (by simp)
   obtain⟨ih1,ih2⟩:=ih _ h3
   refine⟨fun q hq=>?_,fun i j q p hi hj hdp=>?_⟩
   ·rcases mJ.1 hq with rfl|hq
    ·exact⟨ac,hd,by simpa [qx] using H,h2'⟩
    ·obtain⟨d',e1,e2,e3⟩:=ih1 q hq
     exact⟨d',e1,e2,fun hm=>e3 (oj _ hm)⟩
   ·cases i with
    |zero=>
     cases j with
     |zero=>rfl
     |succ j=>
      simp at hi hj
      subst hi
      obtain⟨d',e1,_,e3⟩:=ih1 p (qu hj)
      rw [hd,e1]at hdp
      have e4:ac=d' :=by simpa using hdp
      exact absurd (by rw [e4];exact oh ..) e3
    |succ i=>
     cases j with
     |zero=>
      simp at hi hj
      subst hj
      obtain⟨d',e1,_,e3⟩:=ih1 q (qu hi)
      rw [hd,e1]at hdp
      have e4:d' =ac:=by simpa using hdp
      exact absurd (by rw [e4];exact oh ..) e3
     |succ j=>rw [ih2 i j q p (by simpa using hi) (by simpa using hj) hdp]

structure DJ(E:En)(O:List OE)(G:io)(l:List Oper)(ts:List Ty)(done:Array Bool)(a:Act)(w:World)(S:SH):Prop where
 ext:gj E.B E.w0 E.S0 w S
 sat:hY w S
 own:cr E.base E.B w S O
 size:a.tmps.size=E.N.n
 defers:a.defers=E.N.ds
 dsz:done.size=l.length
 down: ∀j o,l[j]? =some o->done.getD j false=true-> ∀e∈o.after,Region.binds .any e=true->done.getD e.on false=true
 old: ∀k t,look G k=some t->(∀j o,l[j]? =some o->done.getD j false=true->o.dst≠some k)->t.p S (a.tmps.getD k undef)
 new: ∀j o ac t,l[j]? =some o->done.getD j false=true->o.dst=some ac->ts[j]? =some t->t.p S (a.tmps.getD ac undef)
def DJ.need{E:En}{l:List Oper}(h:DJ E O G l ts done a w S)(hi:l[i]? =some o)(hun:done.getD i true=false)(hwait: ∀e∈o.after,Region.binds .any e=true->done.getD e.on false=true){needs:List Nd}(H:mH G ts needs)(J:(needs.all (j8 l o i))=true):cH E.N S a (fB needs):=by
 have hlt:i<done.size:=by rw [h.dsz];exact(mO.1 hi).1
 have hun' :done.getD i false=false:=by
  simp [hlt]at hun ⊢;exact hun
 refine⟨h.size,h.defers,?_⟩
 have key: ∀n∈needs,n.ty.p S (a.tmps.getD n.slot undef):=by
  intro n hn
  have hs:=kU.1 J n hn
  have ho:=H.mem n hn
  unfold j8 at hs
  unfold rj at ho
  cases hsrc:n.src with
  |some j=>
   rw [hsrc]at hs ho
   simp only [lG]at hs
   obtain⟨hs1,hs2⟩:=hs
   cases hj:l[j]? with
   |none=>rw [hj]at hs1;cases hs1
   |some p=>
    rw [hj]at hs1
    cases hd:p.dst with
    |none=>simp only [hd]at hs1;cases hs1
    |some ac=>
     simp only [hd]at hs1
     have hd' :=kR hs1
     subst hd'
     have hdone:done.getD j false=true:=by
      unfold vV at hs2
      obtain⟨e,he0,D⟩:=w9.1 hs2
      have he:e∈o.after:=by simpa using he0
      simp only [lG]at D
      have:=hwait e he D.2
      rwa [kR D.1]at this
     exact h.new j p n.slot n.ty hj hdone hd ho
  |none=>
   rw [hsrc]at hs ho
   refine h.old _ _ ho fun j p hj hdone hd=>?_
   have:=kU.1 hs p (qu hj)
   simp only [hd,Nat.beq_refl,sI,qt]at this
   unfold vV at this
   obtain⟨e,he0,D⟩:=w9.1 this
   have he:e∈p.after:=by simpa using he0
   simp only [lG]at D
   have h3:=h.down j p hj hdone e he D.2
   rw [kR D.1]at h3
   rw [h3]at hun'
   cases hun'
 clear H J
 intro k t hk
 induction needs with
 |nil=>simp [fB,look]at hk
 |cons n needs ih=>
  unfold fB look at hk
  by_cases D:Nat.beq n.slot k=true
  ·rw [D]at hk
   have:=kR D
   subst this
   have e:n.ty=t:=by simpa using hk
   rw [<-e]
   exact key n (oh ..)
  ·rw [uT]at D
   rw [D]at hk
   exact ih (fun m hm=>key m (oj _ hm)) hk
def Dm:List Oper->List Ty->io->io
 |o::l,t::ts,G=>(J7 o,t)::Dm l ts G
 |_,_,G=>G
def zu(l:List Oper): ∀(ts:List Ty) (k:Nat) (t:Ty),(∀o:Oper,o∈l->o.dst≠none)->ts.length=l.length->look (Dm l ts G) k=some t->
  (∃(j:Nat) (o:Oper),l[j]? =some o/\o.dst=some k/\ts[j]? =some t)\/(look G k=some t/\ ∀o:Oper,o∈l->o.dst≠some k):=by
 induction l with
 |nil=>
  intro ts k t _ hl h
  have:ts=[]:=uX (by simpa using hl)
  subst this
  exact .inr ⟨h,fun _ h=>(by cases h)⟩
 |cons o l ih=>
  intro ts k t hne hl h
  cases ts with
  |nil=>simp at hl
  |cons u ts=>
   unfold Dm look at h
   by_cases D:Nat.beq (J7 o) k=true
   ·rw [D]at h
    have hk:=kR D
    refine .inl ⟨0,o,rfl,?_,by simpa using h⟩
    cases hd:o.dst with
    |none=>exact absurd hd (hne o (oh ..))
    |some ac=>simp only [J7,hd,Option.getD_some]at hk;rw [hk]
   ·rw [uT]at D
    rw [D]at h
    rcases ih ts k t (fun p hp=>hne p (oj _ hp)) (by simpa using hl) h with⟨j,p,H,J,h3⟩|⟨H,J⟩
    ·exact .inl ⟨j+1,p,by simpa using H,J,by simpa using h3⟩
    ·refine .inr ⟨H,fun p hp hd=>?_⟩
     rcases mJ.1 hp with rfl|hp
     ·simp [J7,hd]at D
     ·exact J p hp hd
def oA(hd:ac<a.tmps.size):(a.put (some ac) v).tmps.getD k undef=if ac=k then v else a.tmps.getD k undef:=by
 by_cases h:ac=k
 ·subst h;simp [Act.put,Bq,hd]
 ·simp [Act.put,Bq,h]
def DJ.step{E:En}{l:List Oper}(h:DJ E O G l ts done a w S)(hsl:pC E.N.n [] l=true)(hi:l[i]? =some o)(hwait: ∀e∈o.after,Region.binds .any e=true->done.getD e.on false=true)(Y:ts[i]? =some t)(hun:done.getD i true=false)(hext:gj oE w S w' S')(hsat:hY w' S')(hv:t.p S' v):DJ E O G l ts (done.setIfInBounds i true) (a.put o.dst v) w' S' :=by
 obtain⟨hs1,hs2⟩:=qG l [] hsl
 obtain⟨ac,hd,hdN,_⟩:=hs1 o (qu hi)
 have hda:ac<a.tmps.size:=by rw [h.size];exact hdN
 have hlt:i<done.size:=by rw [h.dsz];exact(mO.1 hi).1
 have hset: ∀j,(done.setIfInBounds i true).getD j false=true->j=i\/done.getD j false=true:=fun j hj=>by
  by_cases hij:i=j
  ·exact .inl hij.symm
  ·rw [wt false hij]at hj;exact .inr hj
 have hseti:(done.setIfInBounds i true).getD i false=true:=by simp [hlt]
 have hun' :done.getD i false=false:=by simp [hlt]at hun ⊢;exact hun
 refine⟨h.ext.step0 hext,hsat,h.own.ext0 hext,?_,?_,by simp [h.dsz],fun j p hj hdone e he D=>?_,fun k u hk hno=>?_,fun j p d' u hj hdone hd' hu=>?_⟩
 ·rw [hd];simp [Act.put,h.size]
 ·rw [hd];exact h.defers
 ·rcases hset j hdone with rfl|hj'
  ·rw [hi]at hj
   have:o=p:=by simpa using hj
   subst this
   exact rZ (hwait e he D)
  ·exact rZ (h.down j p hj hj' e he D)
 ·have hne:ac≠k:=fun e=>hno i o hi hseti (by rw [hd,e])
  rw [hd,oA hda,cS hne]
  exact u.mono hext.keep (h.old k u hk fun j p hj hdone=>hno j p hj (rZ hdone))
 ·rw [hd,oA hda]
  rcases hset j hdone with rfl|hj'
  ·rw [hi]at hj
   have:o=p:=by simpa using hj
   subst this
   rw [hd]at hd'
   have:ac=d' :=by simpa using hd'
   subst this
   rw [fE rfl]
   rw [Y]at hu
   have:t=u:=by simpa using hu
   subst this
   exact hv
  ·have hne:ac≠d' :=fun e=>by
    subst e
    have:=hs2 i j o p hi hj (by rw [hd,hd'])
    subst this
    rw [hj']at hun';cases hun'
   rw [cS hne]
   exact u.mono hext.keep (h.new j p d' u hj hj' hd' hu)
def Cs{l:List Oper}{done:Array Bool}(hsz:done.size=l.length)(hedge: ∀i o,l[i]? =some o->di i o=true)(hr:Region.ready .any l.toArray done=[]): ∀n i,i<n->i<l.length->done.getD i false=true
 |0,i,h,_=>by omega
 |n+1,i,h,hi=>by
  have ih:=Cs hsz hedge hr n
  by_cases hd:done.getD i true=true
  ·have:i<done.size:=by omega
   simp [this]at hd ⊢;exact hd
  ·exfalso
   have hmem:i∈Region.ready .any l.toArray done:=by
    rw [sH]
    refine⟨by simpa using hd,l[i],by simp [hi],fun e he D=>?_⟩
    have:=hedge i l[i] (by simp [hi])
    unfold di at this
    have:=kU.1 this e (by simpa using he)
    simp only [D,sI,qt,qx]at this
    exact ih e.on (by omega) (by omega)
   rw [hr]at hmem
   cases hmem
def hM(done:Array Bool):Nat:=done.toList.countP (· ==false)
def lI(h:done.getD i true=false):hM (done.setIfInBounds i true)+1=hM done:=by
 have hlt:i<done.size:=by
  rcases jq i done.size with h' |h'
  ·exact h'
  ·simp [Array.getElem?_eq_none h']at h
 have hv:done[i]=false:=by simpa [hlt] using h
 unfold hM
 rw [Array.toList_setIfInBounds,List.countP_set (by simpa using hlt)]
 have J:(done.toList[i]'(by simpa using hlt))=false:=by simpa using hv
 have hpos:0<done.toList.countP (· ==false):=List.countP_pos_iff.2 ⟨done.toList[i]'(by simpa using hlt),List.getElem_mem _,by rw [J];rfl⟩
 rw [J,fE (show(false==false)=true from rfl),cS (show¬((true==false)=true) by decide)]
 omega
def CX{E:En}{l:List Oper}(hsl:pC E.N.n [] l=true)(hd:DR E O G l ts 0 l)(hQ: ∀done a w S,DJ E O G l ts done a w S->(∀i,i<l.length->done.getD i false=true)->ay .normal a w):
  ∀(fuel:Nat) (done:Array Bool) (a:Act) (w:World) (S:SH),hM done=fuel->DJ E O G l ts done a w S->wpAnyIn (fw E.r) 0 E.P .any l.toArray ay fuel done a w:=by
 have hedge: ∀i o,l[i]? =some o->di i o=true:=fun i o hi=>by
  obtain⟨_,_,_,_,_,h,_⟩:=DR.get l 0 hd i o hi
  simpa using h
 have fin: ∀done a w S,DJ E O G l ts done a w S->Region.ready .any l.toArray done=[]->ay .normal a w:=fun done a w S h hr=>
  hQ done a w S h fun i hi=>Cs h.dsz hedge hr (i+1) i (by omega) hi
 intro fuel
 induction fuel with
 |zero=>
  intro done a w S hu h
  have hr:Region.ready .any l.toArray done=[]:=by
   cases hr:Region.ready .any l.toArray done with
   |nil=>rfl
   |cons i r=>
    have hm:i∈Region.ready .any l.toArray done:=by rw [hr];exact oh ..
    have:=lI (sH.1 hm).1
    omega
  exact⟨hr,fin done a w S h hr⟩
 |succ fuel ih=>
  intro done a w S hu h
  refine⟨fin done a w S h,fun i hi=>?_⟩
  obtain⟨hun,o,ho,hwait⟩:=sH.1 hi
  have ho' :l[i]? =some o:=by simpa using ho
  obtain⟨needs,t,H,J,h3,_,h5⟩:=DR.get l 0 hd i o ho'
  rw [qr]at H h3
  have hF:=h.need ho' hun hwait J h3
  have h6:=h5 a w S h.sat h.own hF
  have hu' :hM (done.setIfInBounds i true)=fuel:=by have:=lI hun;omega
  unfold wpOpIn
  rw [ho]
  show if _ then _ else _
  by_cases hw:Region.wanted o (yielded l.toArray a.tmps)=true
  ·rw [fE hw]at h6 ⊢
   refine gT (fun a' w' ⟨v,S',ha,he,hs,hv⟩=>?_) h6
   subst ha
   exact ih _ _ _ S' hu' (h.step hsl ho' hwait H hun he hs hv)
  ·rw [cS hw]at h6 ⊢
   exact⟨fun _ _=>trivial,ih _ _ _ S hu' (h.step hsl ho' hwait H hun (gj.refl _ _ _) h.sat h6)⟩
section
variable{E:En}
def fX{id:Nat}{l:List Oper}(hm:E.P.follows .mixedOrders=true)(hsl:pC E.N.n [] l=true)(hlen:ts.length=l.length)(hd:DR E O G l ts 0 l)(k:AT E ay .normal O (Dm l ts G)):
  CG E ay (.region id l.toArray true) O G:=fun a w S st=>by
 refine wpIn_region_any hm ?_
 obtain⟨he,hs⟩:=uS (w:=w) st.sat
 refine CX hsl hd (fun done a w S h hall=>k a w S ⟨h.ext,h.sat,h.own,h.size,h.defers,fun j t hj=>?_⟩) _ _ _ _ S ?_
  ⟨st.ext.step0 he,hs,st.own.ext0 he,st.facts.size,st.facts.defers,by simp,fun j o hj hdone=>?_,fun k t hk _=>st.facts.at_ k t hk,fun j o ac t hj hdone=>?_⟩
 ·obtain⟨hs1,_⟩:=qG l [] hsl
  rcases zu l ts j t (fun o ho e=>by obtain⟨ac,hd,_⟩:=hs1 o ho;rw [hd]at e;cases e) hlen hj with⟨i,o,H,J,h3⟩|⟨H,J⟩
  ·exact h.new i o j t H (hall i (mO.1 H).1) J h3
  ·exact h.old j t H fun i o ho _=>J o (qu ho)
 ·unfold hM;rw [Eo,Ej];simp
 ·simp [sK]at hdone
  split at hdone<;>simp at hdone
 ·simp [sK]at hdone
  split at hdone<;>simp at hdone
def h2{need:io}(K:o.guard=none)(h:bE E O need o t):ba E O ops need o t:=fun a w S hs ho hf=>by
 have:Region.wanted o (yielded ops a.tmps)=true:=by unfold Region.wanted;rw [K]
 rw [this,fE rfl]
 exact h a w S hs ho hf
def ri{l:List Oper}{need:io}{c:Bool}(K:o.guard=some (j,pol))(hj:((l.toArray)[j]?).bind (·.dst)=some gs)(hgs:Nat.blt gs E.N.n=true)(D:ax E.N need (.tmp gs) (oI c b))(h:(c&&(b==pol))=true->bE E O need o t):ba E O l.toArray need o (j7 (c&&(b==pol)) t):=fun a w S hs ho hf=>by
 have hw:=xj (ops:=l.toArray) K hj (by rw [hf.size];simpa [qx] using hgs) (D S a hf)
 rw [hw]
 by_cases hc:(c&&(b==pol))=true
 ·rw [fE hc]
  refine jT (fun a' w' ⟨v,S',ha,he,hs,hv⟩=>⟨v,S',ha,he,hs,?_⟩) (h hc a w S hs ho hf)
  show if _ then _ else _
  rw [fE hc];exact hv
 ·rw [cS hc]
  show if _ then _ else _
  rw [cS hc]
end
variable{α0:Type}{Gf:α0->io}{Of:α0->List OE}{α1 α2 α3 α4 α5 α6:Type}
section
variable{E:En}
def GJ{id:Nat}{aw:Prop}{Of:List OE}{Gf:io}(hK:aw->AT E ay .normal (Of) (Gf))(h:(aw->AT E ay .normal (Of) (Gf))->CG E (Exit.inBlock id ay) c O G):CG E ay (.block id c) O G:=ai (h hK)
def oU{aw:Nat->α0->Prop}(h0: ∀x0,aw 0 x0->False)(h: ∀n,(∀x0,aw n x0->LG E ay c (Of x0) (Gf x0))-> ∀x0,aw (n+1) x0->LG E ay c (Of x0) (Gf x0)): ∀n,∀x0,aw n x0->LG E ay c (Of x0) (Gf x0)
 |0=>fun x0 hz=>(h0 x0 hz).elim
 |n+1=>h n (oU h0 h n)
def eH{aw:List β->α0->Prop}{Of:List β->α0->List OE}{Gf:List β->α0->io}(h0: ∀x0,aw [] x0->LG E ay c (Of [] x0) (Gf [] x0))(h: ∀b l,(∀x0,aw l x0->LG E ay c (Of l x0) (Gf l x0))-> ∀x0,aw (b::l) x0->LG E ay c (Of (b::l) x0) (Gf (b::l) x0)): ∀l,∀x0,aw l x0->LG E ay c (Of l x0) (Gf l x0)
 |[]=>h0
 |b::l=>h b l (eH h0 h l)
def Fp{aw:Nat->α0->Prop}{Of:Nat->α0->List OE}{Gf:Nat->α0->io}(h0: ∀x0,aw 0 x0->LG E ay c (Of 0 x0) (Gf 0 x0))(h: ∀n,(∀x0,aw n x0->LG E ay c (Of n x0) (Gf n x0))-> ∀x0,aw (n+1) x0->LG E ay c (Of (n+1) x0) (Gf (n+1) x0)): ∀n,∀x0,aw n x0->LG E ay c (Of n x0) (Gf n x0)
 |0=>h0
 |n+1=>h n (Fp h0 h n)
def z6{id:Nat}{aw:α0->Prop}(hK: ∀x0,aw x0->AT E ay .normal (Of x0) (Gf x0))(h:(∀x0,aw x0->AT E ay .normal (Of x0) (Gf x0))->CG E (Exit.inBlock id ay) c O G):CG E ay (.block id c) O G:=ai (h hK)
def iL{x y:Code}{aw:α0->Prop}(hK: ∀x0,aw x0->CG E ay y (Of x0) (Gf x0))(h:(∀x0,aw x0->AT E (Exit.then (y.wpIn (fw E.r) 0 E.P ay) ay) .normal (Of x0) (Gf x0))->CG E (Exit.then (y.wpIn (fw E.r) 0 E.P ay) ay) x O G):CG E ay (.seq x y) O G:=aF (h (fun x0=>fun hz=>hK x0 hz))
def ft{aw:List β->α0->α1->Prop}{Of:List β->α0->α1->List OE}{Gf:List β->α0->α1->io}(h0: ∀x0 x1,aw [] x0 x1->LG E ay c (Of [] x0 x1) (Gf [] x0 x1))(h: ∀b l,(∀x0 x1,aw l x0 x1->LG E ay c (Of l x0 x1) (Gf l x0 x1))-> ∀x0 x1,aw (b::l) x0 x1->LG E ay c (Of (b::l) x0 x1) (Gf (b::l) x0 x1)): ∀l,∀x0 x1,aw l x0 x1->LG E ay c (Of l x0 x1) (Gf l x0 x1)
 |[]=>h0
 |b::l=>h b l (ft h0 h l)
def Fo{aw:Nat->α0->α1->Prop}{Of:Nat->α0->α1->List OE}{Gf:Nat->α0->α1->io}(h0: ∀x0 x1,aw 0 x0 x1->LG E ay c (Of 0 x0 x1) (Gf 0 x0 x1))(h: ∀n,(∀x0 x1,aw n x0 x1->LG E ay c (Of n x0 x1) (Gf n x0 x1))-> ∀x0 x1,aw (n+1) x0 x1->LG E ay c (Of (n+1) x0 x1) (Gf (n+1) x0 x1)): ∀n,∀x0 x1,aw n x0 x1->LG E ay c (Of n x0 x1) (Gf n x0 x1)
 |0=>h0
 |n+1=>h n (Fo h0 h n)
def vP{x y:Code}{aw:α0->α1->Prop}{Of:α0->α1->List OE}{Gf:α0->α1->io}(hK: ∀x0 x1,aw x0 x1->CG E ay y (Of x0 x1) (Gf x0 x1))(h:(∀x0 x1,aw x0 x1->AT E (Exit.then (y.wpIn (fw E.r) 0 E.P ay) ay) .normal (Of x0 x1) (Gf x0 x1))->CG E (Exit.then (y.wpIn (fw E.r) 0 E.P ay) ay) x O G):CG E ay (.seq x y) O G:=aF (h (fun x0 x1=>fun hz=>hK x0 x1 hz))
def od{aw:List β->α0->α1->α2->Prop}{Of:List β->α0->α1->α2->List OE}{Gf:List β->α0->α1->α2->io}(h0: ∀x0 x1 x2,aw [] x0 x1 x2->LG E ay c (Of [] x0 x1 x2) (Gf [] x0 x1 x2))(h: ∀b l,(∀x0 x1 x2,aw l x0 x1 x2->LG E ay c (Of l x0 x1 x2) (Gf l x0 x1 x2))-> ∀x0 x1 x2,aw (b::l) x0 x1 x2->LG E ay c (Of (b::l) x0 x1 x2) (Gf (b::l) x0 x1 x2)): ∀l,∀x0 x1 x2,aw l x0 x1 x2->LG E ay c (Of l x0 x1 x2) (Gf l x0 x1 x2)
 |[]=>h0
 |b::l=>h b l (od h0 h l)
def Fn{aw:Nat->α0->α1->α2->Prop}{Of:Nat->α0->α1->α2->List OE}{Gf:Nat->α0->α1->α2->io}(h0: ∀x0 x1 x2,aw 0 x0 x1 x2->LG E ay c (Of 0 x0 x1 x2) (Gf 0 x0 x1 x2))(h: ∀n,(∀x0 x1 x2,aw n x0 x1 x2->LG E ay c (Of n x0 x1 x2) (Gf n x0 x1 x2))-> ∀x0 x1 x2,aw (n+1) x0 x1 x2->LG E ay c (Of (n+1) x0 x1 x2) (Gf (n+1) x0 x1 x2)): ∀n,∀x0 x1 x2,aw n x0 x1 x2->LG E ay c (Of n x0 x1 x2) (Gf n x0 x1 x2)
 |0=>h0
 |n+1=>h n (Fn h0 h n)
def GI{id:Nat}{aw:α0->α1->α2->Prop}{Of:α0->α1->α2->List OE}{Gf:α0->α1->α2->io}(hK: ∀x0 x1 x2,aw x0 x1 x2->AT E ay .normal (Of x0 x1 x2) (Gf x0 x1 x2))(h:(∀x0 x1 x2,aw x0 x1 x2->AT E ay .normal (Of x0 x1 x2) (Gf x0 x1 x2))->CG E (Exit.inBlock id ay) c O G):CG E ay (.block id c) O G:=ai (h hK)
def pu{x y:Code}{aw:α0->α1->α2->Prop}{Of:α0->α1->α2->List OE}{Gf:α0->α1->α2->io}(hK: ∀x0 x1 x2,aw x0 x1 x2->CG E ay y (Of x0 x1 x2) (Gf x0 x1 x2))(h:(∀x0 x1 x2,aw x0 x1 x2->AT E (Exit.then (y.wpIn (fw E.r) 0 E.P ay) ay) .normal (Of x0 x1 x2) (Gf x0 x1 x2))->CG E (Exit.then (y.wpIn (fw E.r) 0 E.P ay) ay) x O G):CG E ay (.seq x y) O G:=aF (h (fun x0 x1 x2=>fun hz=>hK x0 x1 x2 hz))
def Fq{aw:Nat->α0->α1->α2->α3->Prop}{Of:α0->α1->α2->α3->List OE}{Gf:α0->α1->α2->α3->io}(h0: ∀x0 x1 x2 x3,aw 0 x0 x1 x2 x3->False)(h: ∀n,(∀x0 x1 x2 x3,aw n x0 x1 x2 x3->LG E ay c (Of x0 x1 x2 x3) (Gf x0 x1 x2 x3))-> ∀x0 x1 x2 x3,aw (n+1) x0 x1 x2 x3->LG E ay c (Of x0 x1 x2 x3) (Gf x0 x1 x2 x3)): ∀n,∀x0 x1 x2 x3,aw n x0 x1 x2 x3->LG E ay c (Of x0 x1 x2 x3) (Gf x0 x1 x2 x3)
 |0=>fun x0 x1 x2 x3 hz=>(h0 x0 x1 x2 x3 hz).elim
 |n+1=>h n (Fq h0 h n)
def jO{aw:List β->α0->α1->α2->α3->Prop}{Of:List β->α0->α1->α2->α3->List OE}{Gf:List β->α0->α1->α2->α3->io}(h0: ∀x0 x1 x2 x3,aw [] x0 x1 x2 x3->LG E ay c (Of [] x0 x1 x2 x3) (Gf [] x0 x1 x2 x3))(h: ∀b l,(∀x0 x1 x2 x3,aw l x0 x1 x2 x3->LG E ay c (Of l x0 x1 x2 x3) (Gf l x0 x1 x2 x3))-> ∀x0 x1 x2 x3,aw (b::l) x0 x1 x2 x3->LG E ay c (Of (b::l) x0 x1 x2 x3) (Gf (b::l) x0 x1 x2 x3)): ∀l,∀x0 x1 x2 x3,aw l x0 x1 x2 x3->LG E ay c (Of l x0 x1 x2 x3) (Gf l x0 x1 x2 x3)
 |[]=>h0
 |b::l=>h b l (jO h0 h l)
def Fm{aw:Nat->α0->α1->α2->α3->Prop}{Of:Nat->α0->α1->α2->α3->List OE}{Gf:Nat->α0->α1->α2->α3->io}(h0: ∀x0 x1 x2 x3,aw 0 x0 x1 x2 x3->LG E ay c (Of 0 x0 x1 x2 x3) (Gf 0 x0 x1 x2 x3))(h: ∀n,(∀x0 x1 x2 x3,aw n x0 x1 x2 x3->LG E ay c (Of n x0 x1 x2 x3) (Gf n x0 x1 x2 x3))-> ∀x0 x1 x2 x3,aw (n+1) x0 x1 x2 x3->LG E ay c (Of (n+1) x0 x1 x2 x3) (Gf (n+1) x0 x1 x2 x3)): ∀n,∀x0 x1 x2 x3,aw n x0 x1 x2 x3->LG E ay c (Of n x0 x1 x2 x3) (Gf n x0 x1 x2 x3)
 |0=>h0
 |n+1=>h n (Fm h0 h n)
def GH{id:Nat}{aw:α0->α1->α2->α3->Prop}{Of:α0->α1->α2->α3->List OE}{Gf:α0->α1->α2->α3->io}(hK: ∀x0 x1 x2 x3,aw x0 x1 x2 x3->AT E ay .normal (Of x0 x1 x2 x3) (Gf x0 x1 x2 x3))(h:(∀x0 x1 x2 x3,aw x0 x1 x2 x3->AT E ay .normal (Of x0 x1 x2 x3) (Gf x0 x1 x2 x3))->CG E (Exit.inBlock id ay) c O G):CG E ay (.block id c) O G:=ai (h hK)
def yA{aw:List β->α0->α1->α2->α3->α4->Prop}{Of:List β->α0->α1->α2->α3->α4->List OE}{Gf:List β->α0->α1->α2->α3->α4->io}(h0: ∀x0 x1 x2 x3 x4,aw [] x0 x1 x2 x3 x4->LG E ay c (Of [] x0 x1 x2 x3 x4) (Gf [] x0 x1 x2 x3 x4))(h: ∀b l,(∀x0 x1 x2 x3 x4,aw l x0 x1 x2 x3 x4->LG E ay c (Of l x0 x1 x2 x3 x4) (Gf l x0 x1 x2 x3 x4))-> ∀x0 x1 x2 x3 x4,aw (b::l) x0 x1 x2 x3 x4->LG E ay c (Of (b::l) x0 x1 x2 x3 x4) (Gf (b::l) x0 x1 x2 x3 x4)): ∀l,∀x0 x1 x2 x3 x4,aw l x0 x1 x2 x3 x4->LG E ay c (Of l x0 x1 x2 x3 x4) (Gf l x0 x1 x2 x3 x4)
 |[]=>h0
 |b::l=>h b l (yA h0 h l)
def GG{id:Nat}{aw:α0->α1->α2->α3->α4->α5->Prop}{Of:α0->α1->α2->α3->α4->α5->List OE}{Gf:α0->α1->α2->α3->α4->α5->io}(hK: ∀x0 x1 x2 x3 x4 x5,aw x0 x1 x2 x3 x4 x5->AT E ay .normal (Of x0 x1 x2 x3 x4 x5) (Gf x0 x1 x2 x3 x4 x5))(h:(∀x0 x1 x2 x3 x4 x5,aw x0 x1 x2 x3 x4 x5->AT E ay .normal (Of x0 x1 x2 x3 x4 x5) (Gf x0 x1 x2 x3 x4 x5))->CG E (Exit.inBlock id ay) c O G):CG E ay (.block id c) O G:=ai (h hK)
def yz{aw:List β->α0->α1->α2->α3->α4->α5->α6->Prop}{Of:List β->α0->α1->α2->α3->α4->α5->α6->List OE}{Gf:List β->α0->α1->α2->α3->α4->α5->α6->io}(h0: ∀x0 x1 x2 x3 x4 x5 x6,aw [] x0 x1 x2 x3 x4 x5 x6->LG E ay c (Of [] x0 x1 x2 x3 x4 x5 x6) (Gf [] x0 x1 x2 x3 x4 x5 x6))(h: ∀b l,(∀x0 x1 x2 x3 x4 x5 x6,aw l x0 x1 x2 x3 x4 x5 x6->LG E ay c (Of l x0 x1 x2 x3 x4 x5 x6) (Gf l x0 x1 x2 x3 x4 x5 x6))-> ∀x0 x1 x2 x3 x4 x5 x6,aw (b::l) x0 x1 x2 x3 x4 x5 x6->LG E ay c (Of (b::l) x0 x1 x2 x3 x4 x5 x6) (Gf (b::l) x0 x1 x2 x3 x4 x5 x6)): ∀l,∀x0 x1 x2 x3 x4 x5 x6,aw l x0 x1 x2 x3 x4 x5 x6->LG E ay c (Of l x0 x1 x2 x3 x4 x5 x6) (Gf l x0 x1 x2 x3 x4 x5 x6)
 |[]=>h0
 |b::l=>h b l (yz h0 h l)
def Fl{aw:Nat->α0->α1->α2->α3->α4->α5->α6->Prop}{Of:Nat->α0->α1->α2->α3->α4->α5->α6->List OE}{Gf:Nat->α0->α1->α2->α3->α4->α5->α6->io}(h0: ∀x0 x1 x2 x3 x4 x5 x6,aw 0 x0 x1 x2 x3 x4 x5 x6->LG E ay c (Of 0 x0 x1 x2 x3 x4 x5 x6) (Gf 0 x0 x1 x2 x3 x4 x5 x6))(h: ∀n,(∀x0 x1 x2 x3 x4 x5 x6,aw n x0 x1 x2 x3 x4 x5 x6->LG E ay c (Of n x0 x1 x2 x3 x4 x5 x6) (Gf n x0 x1 x2 x3 x4 x5 x6))-> ∀x0 x1 x2 x3 x4 x5 x6,aw (n+1) x0 x1 x2 x3 x4 x5 x6->LG E ay c (Of (n+1) x0 x1 x2 x3 x4 x5 x6) (Gf (n+1) x0 x1 x2 x3 x4 x5 x6)): ∀n,∀x0 x1 x2 x3 x4 x5 x6,aw n x0 x1 x2 x3 x4 x5 x6->LG E ay c (Of n x0 x1 x2 x3 x4 x5 x6) (Gf n x0 x1 x2 x3 x4 x5 x6)
 |0=>h0
 |n+1=>h n (Fl h0 h n)
def GE{x y:Code}{α7:Type}{aw:α0->α1->α2->α3->α4->α5->α6->α7->Prop}{Of:α0->α1->α2->α3->α4->α5->α6->α7->List OE}{Gf:α0->α1->α2->α3->α4->α5->α6->α7->io}(hK: ∀x0 x1 x2 x3 x4 x5 x6 x7,aw x0 x1 x2 x3 x4 x5 x6 x7->CG E ay y (Of x0 x1 x2 x3 x4 x5 x6 x7) (Gf x0 x1 x2 x3 x4 x5 x6 x7))(h:(∀x0 x1 x2 x3 x4 x5 x6 x7,aw x0 x1 x2 x3 x4 x5 x6 x7->AT E (Exit.then (y.wpIn (fw E.r) 0 E.P ay) ay) .normal (Of x0 x1 x2 x3 x4 x5 x6 x7) (Gf x0 x1 x2 x3 x4 x5 x6 x7))->CG E (Exit.then (y.wpIn (fw E.r) 0 E.P ay) ay) x O G):CG E ay (.seq x y) O G:=aF (h (fun x0 x1 x2 x3 x4 x5 x6 x7=>fun hz=>hK x0 x1 x2 x3 x4 x5 x6 x7 hz))
def yy{α7 α8:Type}{aw:List β->α0->α1->α2->α3->α4->α5->α6->α7->α8->Prop}{Of:List β->α0->α1->α2->α3->α4->α5->α6->α7->α8->List OE}{Gf:List β->α0->α1->α2->α3->α4->α5->α6->α7->α8->io}(h0: ∀x0 x1 x2 x3 x4 x5 x6 x7 x8,aw [] x0 x1 x2 x3 x4 x5 x6 x7 x8->LG E ay c (Of [] x0 x1 x2 x3 x4 x5 x6 x7 x8) (Gf [] x0 x1 x2 x3 x4 x5 x6 x7 x8))(h: ∀b l,(∀x0 x1 x2 x3 x4 x5 x6 x7 x8,aw l x0 x1 x2 x3 x4 x5 x6 x7 x8->LG E ay c (Of l x0 x1 x2 x3 x4 x5 x6 x7 x8) (Gf l x0 x1 x2 x3 x4 x5 x6 x7 x8))-> ∀x0 x1 x2 x3 x4 x5 x6 x7 x8,aw (b::l) x0 x1 x2 x3 x4 x5 x6 x7 x8->LG E ay c (Of (b::l) x0 x1 x2 x3 x4 x5 x6 x7 x8) (Gf (b::l) x0 x1 x2 x3 x4 x5 x6 x7 x8)): ∀l,∀x0 x1 x2 x3 x4 x5 x6 x7 x8,aw l x0 x1 x2 x3 x4 x5 x6 x7 x8->LG E ay c (Of l x0 x1 x2 x3 x4 x5 x6 x7 x8) (Gf l x0 x1 x2 x3 x4 x5 x6 x7 x8)
 |[]=>h0
 |b::l=>h b l (yy h0 h l)
end
def bs{α:Type _}{β:Type _}{x:Option α}{k:α->Option β}{r:β}(h:x.bind k=some r): ∃y,x=some y/\k y=some r:=by
 cases x with
 |none=>cases h
 |some y=>exact⟨y,rfl,h⟩
def ct{β:Type _}{x y:Option β}{r:β}(h:(if b=true then x else y)=some r)(D:b=true):x=some r:=by rwa [fE D]at h
def cf{β:Type _}{x y:Option β}{r:β}(h:(if b=true then x else y)=some r)(D:b=false):y=some r:=by rwa [cS (by rw [D];decide)]at h
def so{β:Type _}{x r:β}(h:some x=some r):x=r:=by simpa using h
def og [Inhabited α]{x:Option α}{k:α->Option β}{ac:Option β}{r:β}(h:(if b=true then x.bind k else ac)=some r): ∃y,(b=true->x=some y/\k y=some r)/\(b=false->ac=some r):=by
 cases b with
 |true=>obtain⟨y,H,J⟩:=bs (ct h rfl);exact⟨y,fun _=>⟨H,J⟩,fun e=>(by cases e)⟩
 |false=>exact⟨default,fun e=>(by cases e),fun _=>cf h rfl⟩

def br{α β:Type}(p:Rp α)(q:Rp β):Rp (α×β) where
 sz:=p.sz+q.sz
 agg:=true
 rc:=fun S cs x=> ∃a b,cs=a++b/\p.rc S a x.1/\q.rc S b x.2
 mono:=fun h ⟨a,b,e,H,J⟩=>⟨a,b,e,p.mono h H,q.mono h J⟩
 len:=fun⟨a,b,e,H,J⟩=>by rw [e,j6,p.len H,q.len J]
 one:=fun⟨a,b,e,H,J⟩ c hc=>by
  rw [e]at hc
  rcases List.mem_append.1 hc with h|h
  ·exact p.one H c h
  ·exact q.one J c h
 sc:=fun h=>by cases h
def f7{α β:Type}(p:Rp α)(f:β->α):Rp β where
 sz:=p.sz
 agg:=true
 rc:=fun S cs x=>p.rc S cs (f x)
 mono:=fun h k=>p.mono h k
 len:=fun h=>p.len h
 one:=fun h=>p.one h
 sc:=fun h=>by cases h
def bi{p:Rp α}{f:β->α}:fW (f7 p f) 0 p f:=fun S cs x h=>by
 have h' :p.rc S cs (f x):=h
 have hl:=p.len h'
 rw [r0,<-hl,Br];exact h'
def bU{γ:Type}{p:Rp α}{q:Rp β}{r:Rp γ}{get:γ->α×β}(h:fW r off (br p q) get):fW r off p (fun x=>(get x).1):=fun S cs x k=>by
 obtain⟨a,b,e,H,J⟩:=h S cs x k
 have hl:=p.len H
 have hl2:=q.len J
 have:(cs.drop off).take p.sz=a:=by
  have e2:=congrArg (List.take p.sz) e
  rw [w8,tB (by show p.sz<=p.sz+q.sz;omega),<-hl,List.take_left]at e2
  rw [<-hl];exact e2
 rw [this];exact H
def ap{γ:Type}{p:Rp α}{q:Rp β}{r:Rp γ}{off' :Nat}{get:γ->α×β}(h:fW r off (br p q) get)(ho:off' =off+p.sz):fW r off' q (fun x=>(get x).2):=fun S cs x k=>by
 obtain⟨a,b,e,H,J⟩:=h S cs x k
 have hl:=p.len H
 have hl2:=q.len J
 have:(cs.drop off').take q.sz=b:=by
  have e2:=congrArg (List.drop p.sz) e
  rw [z8,tA,<-hl,List.drop_left]at e2
  rw [ho,<-hl,<-e2]
  congr 1
  show q.sz=p.sz+q.sz-a.length
  omega
 rw [this];exact J

section
variable{E:En}
def Kn{op:Op}{ty:TypeId}(hj:(ops[j]?).bind (·.dst)=some gs)(hgs:Nat.blt gs E.N.n=true)(K:look G gs=some (V rB b))(hd:Nat.blt ac E.N.n=true)(h:b=true->bE E O G ⟨some ac,op,ty,pos,after,some (j,true)⟩ t)(k:RG E ops ay rest O ((ac,j7 b t)::G)):RG E ops ay (⟨some ac,op,ty,pos,after,some (j,true)⟩::rest) O G:=by
 have e:(true&&(b==true))=b:=by cases b<;>rfl
 exact Bj hj hgs (oH K) hd (by rw [e];exact h) (by rw [e];exact k)
def Ko{op:Op}{ty:TypeId}(hj:(ops[j]?).bind (·.dst)=some gs)(hgs:Nat.blt gs E.N.n=true)(K:look G gs=some (V rB b))(hd:Nat.blt ac E.N.n=true)(h:(!b)=true->bE E O G ⟨some ac,op,ty,pos,after,some (j,false)⟩ t)(k:RG E ops ay rest O ((ac,j7 (!b) t)::G)):RG E ops ay (⟨some ac,op,ty,pos,after,some (j,false)⟩::rest) O G:=by
 have e:(true&&(b==false))= !b:=by cases b<;>rfl
 exact Bj hj hgs (oH K) hd (by rw [e];exact h) (by rw [e];exact k)
def cd{c:Bool}{op:Op}{ty:TypeId}(hj:(ops[j]?).bind (·.dst)=some gs)(hgs:Nat.blt gs E.N.n=true)(K:look G gs=some (j7 c (V rB b)))(hd:Nat.blt ac E.N.n=true)(h:(c&&b)=true->bE E O G ⟨some ac,op,ty,pos,after,some (j,true)⟩ t)(k:RG E ops ay rest O ((ac,j7 (c&&b) t)::G)):RG E ops ay (⟨some ac,op,ty,pos,after,some (j,true)⟩::rest) O G:=by
 have e:(c&&(b==true))=(c&&b):=by cases b<;>rfl
 exact Bj hj hgs (vm K) hd (by rw [e];exact h) (by rw [e];exact k)
def cn{c:Bool}{op:Op}{ty:TypeId}(hj:(ops[j]?).bind (·.dst)=some gs)(hgs:Nat.blt gs E.N.n=true)(K:look G gs=some (j7 c (V rB b)))(hd:Nat.blt ac E.N.n=true)(h:(c&& !b)=true->bE E O G ⟨some ac,op,ty,pos,after,some (j,false)⟩ t)(k:RG E ops ay rest O ((ac,j7 (c&& !b) t)::G)):RG E ops ay (⟨some ac,op,ty,pos,after,some (j,false)⟩::rest) O G:=by
 have e:(c&&(b==false))=(c&& !b):=by cases b<;>rfl
 exact Bj hj hgs (vm K) hd (by rw [e];exact h) (by rw [e];exact k)
def oc{l:List Oper}{need:io}(K:o.guard=some (j,true))(hj:((l.toArray)[j]?).bind (·.dst)=some gs)(hgs:Nat.blt gs E.N.n=true)(D:look need gs=some (V rB b))(h:b=true->bE E O need o t):ba E O l.toArray need o (j7 b t):=by
 have e:(true&&(b==true))=b:=by cases b<;>rfl
 have:=ri (t:=t) K hj hgs (oH (E:=E) D) (by rw [e];exact h)
 rwa [e]at this
def gO{l:List Oper}{need:io}(K:o.guard=some (j,false))(hj:((l.toArray)[j]?).bind (·.dst)=some gs)(hgs:Nat.blt gs E.N.n=true)(D:look need gs=some (V rB b))(h:(!b)=true->bE E O need o t):ba E O l.toArray need o (j7 (!b) t):=by
 have e:(true&&(b==false))= !b:=by cases b<;>rfl
 have:=ri (t:=t) K hj hgs (oH (E:=E) D) (by rw [e];exact h)
 rwa [e]at this
def kz{l:List Oper}{need:io}{c:Bool}(K:o.guard=some (j,true))(hj:((l.toArray)[j]?).bind (·.dst)=some gs)(hgs:Nat.blt gs E.N.n=true)(D:look need gs=some (j7 c (V rB b)))(h:(c&&b)=true->bE E O need o t):ba E O l.toArray need o (j7 (c&&b) t):=by
 have e:(c&&(b==true))=(c&&b):=by cases b<;>rfl
 have:=ri (t:=t) K hj hgs (vm (E:=E) D) (by rw [e];exact h)
 rwa [e]at this
def ku{a:Bool}(h:a=true)(k:b=true):(a&&b)=true:=by rw [h,k];rfl
def lD{a:Bool}(h:a=false):(!a)=true:=by rw [h];rfl
def lx{c:Operand}{x y:Code}(D:ax E.N G c (V rB b))(h:b=true)(A:CG E ay x O G):CG E ay (.cond c x y) O G:=w7 D (fun _=>A) (fun e=>by rw [h]at e;cases e)
def ly{c:Operand}{x y:Code}(D:ax E.N G c (V rB b))(h:b=false)(hy:CG E ay y O G):CG E ay (.cond c x y) O G:=w7 D (fun e=>by rw [h]at e;cases e) (fun _=>hy)
end
def IB [Inhabited α]{x:Option α}{k:α->Option β}{r:β}(h:b=true->x.bind k=some r): ∃y,b=true->x=some y/\k y=some r:=by
 cases b with
 |true=>obtain⟨y,H,J⟩:=bs (h rfl);exact⟨y,fun _=>⟨H,J⟩⟩
 |false=>exact⟨default,fun e=>(by cases e)⟩
section
variable{E:En}{ty:TypeId}
def f9{c:Operand}(hc:ax E.N G c (V rB b))(A:b=true->ax E.N G x (V rB q)):bE E O G ⟨dst,.pick c x (.const (.bool false)),ty,pos,after,g⟩ (V rB (b&&q)):=by
 refine wW hc (fun h=>?_) (fun h=>?_)
 ·subst h;exact A rfl
 ·subst h;exact hB
def rA{c:Operand}(hc:ax E.N G c (V rB b))(A:b=false->ax E.N G x (V rB q)):bE E O G ⟨dst,.pick c (.const (.bool true)) x,ty,pos,after,g⟩ (V rB (b||q)):=by
 refine wW hc (fun h=>?_) (fun h=>?_)
 ·subst h;exact hB
 ·subst h;exact A rfl
def cb{c:Operand}{t:Bool}(hc:ax E.N G c (V rB b))(A:b=true->ax E.N G x (V rB q))(e1:b=true->some q=some t)(e0:b=false->some false=some t):bE E O G ⟨dst,.pick c x (.const (.bool false)),ty,pos,after,g⟩ (V rB t):=by
 refine wW hc (fun h=>?_) (fun h=>?_)
 ·rw [<-so (e1 h)];exact A h
 ·rw [<-so (e0 h)];exact hB
def cP{c:Operand}{t:Bool}(hc:ax E.N G c (V rB b))(A:b=false->ax E.N G x (V rB q))(e1:(!b)=true->some q=some t)(e0:(!b)=false->some true=some t):bE E O G ⟨dst,.pick c (.const (.bool true)) x,ty,pos,after,g⟩ (V rB t):=by
 refine wW hc (fun h=>?_) (fun h=>?_)
 ·rw [<-so (e0 (by rw [h];rfl))];exact hB
 ·rw [<-so (e1 (by rw [h];rfl))];exact A h
def xQ(hi:ts[i]? =some t)(A:ax E.N G x (tT ts)):bE E O G ⟨dst,.extract x i,ty,pos,after,g⟩ t:=
 .of_pure fun a w S _ _ hf=>by
  obtain⟨vs,H,J⟩:=A S a hf
  obtain⟨v,h3,h4⟩:=J.at_ i t hi
  exact⟨v,by simp [execOp,H,Instr.extract,h3],h4⟩
def AH{k:IntKind}{m n:Int}(A:ax E.N G x (V (rI k) m))(hy:ax E.N G y (V (rI k) n)):bE E O G ⟨dst,.call ⟨.builtin .max,#[x,y],ats⟩,ty,pos,after,g⟩ (V (rI k) (max m n)):=
 .of_pure fun a w S _ _ hf=>by
  have H:a.eval x= .int k m:=dK.1 (A S a hf)
  have J:a.eval y= .int k n:=dK.1 (hy S a hf)
  refine⟨.int k (if n>m then n else m),by simp [execOp,resolve,invoke,builtin,Builtin.max_,Builtin.max2,H,J],dK.2 ?_⟩
  congr 1
  rw [Int.max_def]
  split<;>split<;>omega
def ji{k:IntKind}{m n:Int}(A:ax E.N G x (V (rI k) m))(hy:ax E.N G y (V (rI k) n)):bE E O G ⟨dst,.call ⟨.builtin .min,#[x,y],ats⟩,ty,pos,after,g⟩ (V (rI k) (min m n)):=
 .of_pure fun a w S _ _ hf=>by
  have H:a.eval x= .int k m:=dK.1 (A S a hf)
  have J:a.eval y= .int k n:=dK.1 (hy S a hf)
  refine⟨.int k (if n<m then n else m),by simp [execOp,resolve,invoke,builtin,Builtin.min_,Builtin.min2,H,J],dK.2 ?_⟩
  congr 1
  rw [Int.min_def]
  split<;>split<;>omega

def eV(P:Program){α β:Type}(args:α->List Ty)(res:β->Ty)(f:α->Option β):Ty where
 p:=fun S v=> ∃fid cap,v= .func (.func fid) #[] cap/\af P fid=true/\ ∀x y,f x=some y-> ∀w S' vs,lu S S' ->hY w S' ->sn S' (args x) vs->
  Calls P fid (vs.toArray++cap) w fun e w' => ∃v S'',e= .returned v/\gj oE w S' w' S'' /\hY w' S'' /\(res y).p S'' v
 mono:=fun h ⟨f,cap,e,hc,k⟩=>⟨f,cap,e,hc,fun x y hxy w S' vs hle=>k x y hxy w S' vs (SH.le_trans h hle)⟩
def Lw{N:Fr}{P:Program}{f:α->Option β}{fid:FuncId}(hc:af P fid=true)(hs: ∀x y,f x=some y->cw P fid (args x) (res y)):ax N G (.func fid) (eV P args res f):=fun S a _=>
 ⟨fid,#[],rfl,hc,fun x y h w S' vs _ hsat hv=>by simpa using hs x y h w S' vs hsat hv⟩
def sn.append: ∀{ts us:List Ty} {vs ws:List Value},sn S ts vs->sn S us ws->sn S (ts++us) (vs++ws)
 |[],_,[],_,_,h=>h
 |_::_,_,_::_,_,⟨H,J⟩,h=>⟨H,sn.append J h⟩
def jx{f:α->Option β}{fid:FuncId}{caps:List Operand}{cts:List Ty}(hc:af E.P fid=true)(hcap:fM E.N G caps cts)(hs: ∀x y,f x=some y->cw E.P fid (args x++cts) (res y)):bE E O G ⟨dst,.makeFunc (.func fid) #[] caps.toArray,ty,pos,after,g⟩ (eV E.P args res f):=
 .of_pure fun a w S _ _ hf=>by
  refine⟨.func (.func fid) #[] (caps.map a.eval).toArray,by simp [execOp,Instr.makeFunc],fid,_,rfl,hc,fun x y h w' S' vs hle hsat hv=>?_⟩
  have hcv:=(hcap.tys hf).mono hle
  simpa using hs x y h w' S' _ hsat (hv.append hcv)
def fq{f:α->Option β}{fo:Operand}{x:α}{y:β}{xs:List Operand}(hfo:ax E.N G fo (eV E.P args res f))(h:f x=some y)(A:fM E.N G xs (args x)):
  bE E O G ⟨dst,.call ⟨.value fo,xs.toArray,ats⟩,ty,pos,after,g⟩ (res y):=fun a w S hS _ hF=>by
 obtain⟨fid,cap,e,hc,hs⟩:=hfo S a hF
 have hr:(execOp a.eval ⟨dst,.call ⟨.value fo,xs.toArray,ats⟩,ty,pos,after,g⟩).run E.P w= .ok (.enter fid ((xs.map a.eval).toArray++cap)) w:=by
  simp [execOp,resolve,e,Deferred.ofValue,invoke,fA hc]
 refine⟨fun c h=>(by cases h),?_⟩
 rw [hr]
 exact(hs x y h w S _ (SH.le_refl _) hS (A.tys hF)).mono fun e w' ⟨v,S',he,H,J,h3⟩=>⟨v,he,v,S',rfl,H,J,h3⟩
end
def cw.of{P:Program}{N:Nat}(hf:P.funcs[f]? =some fn)(D:fn.body=some c)(hN:fn.ntmps=N)(hn:Nat.ble ts.length N=true)(h: ∀w0 S0,CG ⟨P,⟨N,[]⟩,oE,w0,S0,none⟩ (bodyPost P fn (Cl ⟨P,⟨N,[]⟩,oE,w0,S0,none⟩ t)) c [] (sB 0 ts)):cw P f ts t:=by
 subst hN
 exact Bi hf D (mP hn) h
def nn{α:Type _}{r:α}(h:(none:Option α)=some r):False:=by cases h
def tw{N:Fr}:ax N G (.const (.slice none 0 0)) (tV (M none 0 0)):=fun _ _ _=>rfl
def kw:Nat:=2^64
section
variable{E:En}{ty:TypeId}
def Dn(l:Option Nat)(cap n:Nat)(h:l=none->n=0): ∃a c,M l cap n= .slice a n c:=by
 cases l with
 |none=>rw [h rfl];exact⟨none,0,rfl⟩
 |some b=>exact⟨_,cap,rfl⟩
def eK{r:Rp α}{n:Nat}{t:TypeId}(Y:E.P.underlying t=some (.slice e))(hm:gL mm r T l cap xs∈O)(A:ax E.N G x (tV (M l cap n)))(hn:n=xs.length:=by rfl):
  bE E O G ⟨dst,.call ⟨.builtin .len,#[x],#[t]⟩,ty,pos,after,g⟩ (V (rI .i64) (n:Int)):=
 .of_pure fun a w S _ ho hf=>by
  have H:a.eval x=M l cap n:=A S a hf
  have J:=(ho.mem _ hm).1
  obtain⟨ad,c,h3⟩:=Dn l cap n (fun e=>by subst e;obtain⟨_,h4,_⟩:=J;rw [hn];exact h4.1)
  refine⟨.int .i64 n,?_,dK.2 rfl⟩
  simp [execOp,resolve,invoke,builtin,Builtin.len_,mK Y,H,h3,goInt]
end

structure GD(P:Program){α:Type} [DecidableEq α](t:TypeId)(r:Rp α):Prop where
 guard:P.eqGuardType P.depth t=false
 run: ∀(S:SH) (cs ds:List Value) (x y:α) (ac:Nat) (w:World),r.rc S cs x->r.rc S ds y->(Op.equalIn (ac+20) t (r.val cs) (r.val ds)).run P w= .ok (decide (x=y)) w
section
variable{E:En}{ty:TypeId}
def wi{P:Program}{t:TypeId}(h:P.eqGuardType P.depth t=false){op:BinOp}{x y:Operand}{u v:Array Value}{w:World}:(eqGuard op t x y (.agg u) (.agg v)).run P w= .ok () w:=by
 unfold eqGuard
 cases op<;>first|rfl|simp [h]
def m9{r:Rp α}(h:r.agg=true)(cs:List Value):r.val cs= .agg cs.toArray:=by unfold Rp.val;rw [fE h]
def EI [DecidableEq α]{r:Rp α}{m n:α}(he:GD E.P xt r)(A:ax E.N G x (V r m))(hy:ax E.N G y (V r n))(ha:r.agg=true:=by rfl):bE E O G ⟨dst,.binOp .eql xt x y yt,ty,pos,after,g⟩ (V rB (decide (m=n))):=
 .of_pure fun a w S _ _ hf=>by
  obtain⟨cs,H,J⟩:=A S a hf
  obtain⟨ds,h3,h4⟩:=hy S a hf
  refine⟨.bool (decide (m=n)),?_,fZ.2 rfl⟩
  have hr:=he.run S cs ds m n 9980 w J h4
  have K:= @wi E.P xt he.guard .eql x y cs.toArray ds.toArray w
  rw [m9 ha,m9 ha]at hr
  simp only [execOp,H,h3,m9 ha,mi,K,m6,binOp,Op.equal,Op.maxDepth]
  rw [show(10000:Nat)=9980+20 from rfl,hr]
  simp
def wY [DecidableEq α]{r:Rp α}{m n:α}(he:GD E.P xt r)(A:ax E.N G x (V r m))(hy:ax E.N G y (V r n))(ha:r.agg=true:=by rfl):bE E O G ⟨dst,.binOp .neq xt x y yt,ty,pos,after,g⟩ (V rB (!decide (m=n))):=
 .of_pure fun a w S _ _ hf=>by
  obtain⟨cs,H,J⟩:=A S a hf
  obtain⟨ds,h3,h4⟩:=hy S a hf
  refine⟨.bool (!decide (m=n)),?_,fZ.2 rfl⟩
  have hr:=he.run S cs ds m n 9980 w J h4
  have K:= @wi E.P xt he.guard .neq x y cs.toArray ds.toArray w
  rw [m9 ha,m9 ha]at hr
  simp only [execOp,H,h3,m9 ha,mi,K,m6,binOp,Op.equal,Op.maxDepth]
  rw [show(10000:Nat)=9980+20 from rfl,hr]
  simp
end
end Go.Proofs.YthbdkceckjihgaaGreatDoor

