/- cR of this claim: W1, W49, W2, W3, W4, W5, W6, W7, W8, W9, W10, W11. -/
import Derived.WalkKit
import Derived.Orders
import Derived.Shelf.Unicode.CaseTo
import Derived.Shelf.Unicode.DecodeSlow
import Derived.Lone
import Derived.RunT
import Derived.Calls
import Derived.RangeFuncIn
import Derived.TacticsIn
import Derived.OrdersIn
import Derived.LoopIn
import Derived.Laws.AppendOwn
import Derived.Deep.Upon
import Derived.Lib.AppendStr
import Derived.IntWalk
set_option linter.all false
namespace Go.Proofs.YtnmjbolollcokaaGreatDoor
open Go
def be:= @Option.bind_some
def bg:= @if_neg
def bm:= @if_pos
def dN:= @Nat.le_refl
def oT:= @List.getElem?_eq_some_iff
def pE:= @List.getElem?_eq_getElem
def nE:= @List.mem_cons_of_mem
def nm:= @List.mem_cons_self
def n6:= @List.append_assoc
def gJ:= @List.length_cons
def jA:= @List.length_append
def jD:= @Bool.and_eq_true
def gz:= @List.mem_cons
def iv:= @List.nil_append
def o5:= @List.getElem?_append_right
def mQ:= @Nat.eq_of_beq_eq_true
def iN:= @run_underlying
def gx:= @Nat.zero_le
def pW:= @List.drop_eq_getElem_cons
def nW:= @Nat.le_of_ble_eq_true
def mz:= @Bool.false_eq_true
def tp:= @List.eq_nil_of_length_eq_zero
def pV:= @List.take_of_length_le
def sU:= @Array.getElem?_eq_some_iff
def mP:= @List.all_eq_true
def jM:= @Nat.lt_or_ge
def my:= @decide_eq_false
def qE:= @List.mem_of_getElem?
def nV:= @Option.some.inj
def oV:= @decide_eq_true_eq
def t8:= @List.getElem?_append_left
def kZ:= @Nat.le_trans
def sT:= @List.drop_of_length_le
def sS:= @List.take_append_drop
def xl:= @List.take_append_of_le_length
def qt:= @Result.andThen_ok
def nU:= @decide_eq_true
def iM:= @if_false
def nT:= @Bool.not_true
def xk:= @Array.getElem?_replicate
def iE:= @if_true
def qr:= @List.drop_zero
def q7:= @List.length_nil
def t7:= @List.mem_singleton
def o4:= @Sem.run_bind
def o0:= @Nat.zero_add
def u4:= @Nat.lt_of_lt_of_le
def zE:= @List.getElem?_take_of_lt
def yf:= @Option.map_eq_some_iff
def ve:= @List.getElem?_drop
def sR:= @List.drop_drop
def zD:= @List.drop_eq_nil_of_le
def ye:= @List.drop_eq_nil_iff
def wN:= @Int.toNat_natCast
def u3:= @Bool.or_eq_true
def BG:= @decide_eq_false_iff_not
def yd:= @Stepped.next.injEq
def t6:= @getD_set_true
def EM:= @Array.getD_eq_getD_getElem?
def A5:= @Nat.mul_le_mul_right
def tm:= @Nat.sub_self
def wM:= @Bool.eq_iff_iff
def u0:= @Bool.false_or
def F8:= @List.drop_append_of_le_length
def xj:= @List.mem_append
def yc:= @Bool.not_eq_true
def vc:= @List.all_cons
def zB:= @Bool.not_eq_true'
def vb:= @Bool.true_and
def yb:= @List.append_nil
def zA:= @List.cons_append
def wL:= @List.map_cons
def tk:= @Nat.blt_eq
def zz:= @Nat.min_eq_left
def KR:= @List.take_succ_eq_append_getElem
def A4:= @Nat.lt_succ_self
def A3:= @List.any_eq_true
def va:= @Nat.add_mul
def F7:= @List.getElem?_cons_zero
def zy:= @List.take_take
def F6:= @List.getElem?_eq_none
def F5:= @Bool.and_eq_true_iff
def C0:= @IntKind.wrap_i64
def zx:= @Nat.add_zero
def BF:= @List.drop_take
def BE:= @heap_alloc_new
def vg:= @Bool.not_false
def yk:= @Bool.eq_false_iff
def yj:= @List.take_length
def yi:= @List.length_take
def tt:= @getD_set_ne
def vf:= @List.any_cons
def BL:= @List.mem_append_left
def sa:= @bne_iff_ne
def Dx:= @Option.bind_eq_some_iff
def Ap:= @List.getElem?_map
def q8:= @mem_ready
def BK:= @Array.length_toList
def tq:= @beq_iff_eq
def Ao:= @List.length_drop
def An:= @List.map_append
def BJ:= @decide_eq_decide
def Gg:= @MapKept.run_getObj_map
def yh:= @Nat.le_of_eq
def yg:= @List.map_nil
def Ge:= @List.set_append_right
def Gd:= @List.contains_iff_mem
def Gc:= @List.length_replicate
def Dv:= @List.ext_getElem?
def Du:= @List.size_toArray
def Gb:= @Bool.or_eq_false_iff
def Am:= @List.mem_map
def Al:= @Sem.runT_fst
def Ga:= @List.map_congr_left
def BI:= @callsIn_of_wp
def Dt:= @Option.map_some
def JO:= @Array.toList_replicate
def F9:= @Option.some.injEq
def Dr:= @Bool.and_assoc
def JN:= @List.singleton_append
def JM:= @List.countP_replicate
def BH:= @Sem.run_pure
def JL:= @List.mem_append_right
def Dq:= @Bool.false_and
def JK:= @MapKept.run_checkKey

def Dc:Obj→Obj→Prop
 | .cells c E fr,o' => ∃d:List Value,o' = .cells (c.toList++d).toArray E fr
 |o,o' =>o' =o
variable{o:Oper}
theorem vL(o:Obj):Dc o o:=by
 cases o<;>first|rfl|exact⟨[],by simp⟩
variable{c:Code}{cells:List Value}{d:Nat}{fr:Nat×Nat}{k:Nat}{o' :Obj}
theorem D6{o o'' :Obj}(h:Dc o o')(k:Dc o' o''):Dc o o'' :=by
 cases o with
 |cells c E fr=>
  obtain⟨d,rfl⟩:=h
  obtain⟨d',rfl⟩:=k
  exact⟨d++d',by simp⟩
 |_=>cases h;exact k
variable{off:Nat}
theorem Co{c:Array Value}{E:TypeId}(h:Dc (.cells c E fr) o'){n:Nat}(hl:((c.toList.drop off).take n).length=n):
  ∃c',o' = .cells c' E fr∧(c'.toList.drop off).take n=(c.toList.drop off).take n:=by
 obtain⟨d,rfl⟩:=h
 refine⟨_,rfl,?_⟩
 by_cases hn:n=0
 ·subst hn;simp
 simp only [yi,Ao]at hl
 rw [F8 (by omega),xl (by simp only [Ao];omega)]
abbrev SH:=Nat→Option Obj
def SH.le(S S' :SH):Prop:= ∀b o,S b=some o→ ∃o',S' b=some o' ∧Dc o o'
variable{S:SH}
theorem SH.le_refl(S:SH):SH.le S S:=fun _ o h=>⟨o,h,vL o⟩
variable{S' S'' :SH}{b:Bool}{e:TypeId}
theorem SH.le_trans(h:SH.le S S')(k:SH.le S' S''):SH.le S S'' :=fun b o e=>let⟨o',h1,h2⟩:=h b o e;let⟨o'',h3,h4⟩:=k b o' h1;⟨o'',h3,D6 h2 h4⟩
structure Ty where
 p:SH→Value→Prop
 mono: ∀{S S' :SH} {v:Value},SH.le S S' →p S v→p S' v

structure Rp(α:Type) where
 sz:Nat
 agg:Bool
 rc:SH→List Value→α→Prop
 mono: ∀{S S' :SH} {cs:List Value} {x:α},SH.le S S' →rc S cs x→rc S' cs x
 len: ∀{S:SH} {cs:List Value} {x:α},rc S cs x→cs.length=sz
 one: ∀{S:SH} {cs:List Value} {x:α},rc S cs x→ ∀c∈cs,c.oneCell' =true
 sc:agg=false→sz=1

def Rp.val{α:Type}(r:Rp α)(cs:List Value):Value:=if r.agg then .agg cs.toArray else cs.headD undef

def tD{α:Type}(r:Rp α)(x:α):Ty where
 p:=fun S v=> ∃cs,v=r.val cs∧r.rc S cs x
 mono:=fun h ⟨cs,e,k⟩=>⟨cs,e,r.mono h k⟩

def zJ:Ty where
 p:=fun _ _=>True
 mono:=fun _ _=>trivial

def tV(u:Value):Ty where
 p:=fun _ v=>v=u
 mono:=fun _ h=>h

def rI(k:IntKind):Rp Int where
 sz:=1
 agg:=false
 rc:=fun _ cs x=>cs=[.int k x]
 mono:=fun _ h=>h
 len:=fun h=>by rw [h];rfl
 one:=fun h c hc=>by subst h;simp at hc;subst hc;rfl
 sc:=fun _=>rfl

def rB:Rp Bool where
 sz:=1
 agg:=false
 rc:=fun _ cs x=>cs=[.bool x]
 mono:=fun _ h=>h
 len:=fun h=>by rw [h];rfl
 one:=fun h c hc=>by subst h;simp at hc;subst hc;rfl
 sc:=fun _=>rfl

abbrev gV:=List UInt8
def rS:Rp gV where
 sz:=1
 agg:=false
 rc:=fun _ cs x=>cs=[.string ⟨x.toArray⟩]
 mono:=fun _ h=>h
 len:=fun h=>by rw [h];rfl
 one:=fun h c hc=>by subst h;simp at hc;subst hc;rfl
 sc:=fun _=>rfl

variable{cs:List Value}{v:Value}
theorem dO{k:IntKind}{n:Int}:(tD (rI k) n).p S v↔v= .int k n:=by
 constructor
 ·rintro⟨cs,rfl,h⟩;have h' :cs=[.int k n]:=h;subst h';rfl
 ·rintro rfl;exact⟨[.int k n],rfl,rfl⟩
theorem iP:(tD rB b).p S v↔v= .bool b:=by
 constructor
 ·rintro⟨cs,rfl,h⟩;have h' :cs=[.bool b]:=h;subst h';rfl
 ·rintro rfl;exact⟨[.bool b],rfl,rfl⟩
variable{α:Type}{s:Sem α}
theorem vl{s:gV}:(tD rS s).p S v↔v= .string ⟨s.toArray⟩:=by
 constructor
 ·rintro⟨cs,rfl,h⟩;have h' :cs=[.string ⟨s.toArray⟩]:=h;subst h';rfl
 ·rintro rfl;exact⟨[.string ⟨s.toArray⟩],rfl,rfl⟩

def tH{α:Type}(r:Rp α)(S:SH):List Value→List α→Prop
 |cs,[]=>cs=[]
 |cs,x::xs=> ∃a b,cs=a++b∧r.rc S a x∧tH r S b xs
variable{a:Act}{xs:List α}
theorem ro{α:Type}{r:Rp α}{S S' :SH}(h:SH.le S S'): ∀{xs:List α} {cs:List Value},tH r S cs xs→tH r S' cs xs
 |[],_,k=>k
 |_::_,_,⟨a,b,e,h1,h2⟩=>⟨a,b,e,r.mono h h1,ro h h2⟩
variable{x:Operand}
theorem nh{α:Type}{r:Rp α}{S:SH}: ∀{xs:List α} {cs:List Value},tH r S cs xs→cs.length=xs.length*r.sz
 |[],_,k=>by rw [show _=_ from k];simp
 |x::xs,_,⟨a,b,e,h1,h2⟩=>by rw [e,jA,r.len h1,nh h2,gJ,va];omega
theorem Br{α:Type}{r:Rp α}{S:SH}: ∀{xs:List α} {cs:List Value},tH r S cs xs→ ∀c∈cs,c.oneCell' =true
 |[],_,k,c,hc=>by rw [show _=_ from k]at hc;cases hc
 |x::xs,_,⟨a,b,e,h1,h2⟩,c,hc=>by
  rw [e]at hc
  rcases xj.1 hc with h|h
  ·exact r.one h1 c h
  ·exact Br h2 c h
variable{ys:List α}
theorem uv{α:Type}{r:Rp α}{S:SH}: ∀{xs ys:List α} {cs ds:List Value},tH r S cs xs→tH r S ds ys→tH r S (cs++ds) (xs++ys)
 |[],_,_,_,k,h=>by rw [show _=_ from k];exact h
 |_::_,_,_,_,⟨a,b,e,h1,h2⟩,h=>⟨a,_,by rw [e,n6],h1,uv h2 h⟩
theorem pm{α:Type}{r:Rp α}{S:SH}: ∀{xs ys:List α} {cs:List Value},tH r S cs (xs++ys)→
  tH r S (cs.take (xs.length*r.sz)) xs∧tH r S (cs.drop (xs.length*r.sz)) ys
 |[],_,_,k=>by simp [tH];exact k
 |x::xs,ys,cs,⟨a,b,e,h1,h2⟩=>by
  have hl:=r.len h1
  have ih:=pm h2
  have e1:(x::xs).length*r.sz=a.length+xs.length*r.sz:=by rw [hl,gJ,va];omega
  rw [e,e1,List.take_length_add_append,List.drop_length_add_append]
  exact⟨⟨a,_,rfl,h1,ih.1⟩,ih.2⟩
theorem IP{r:Rp α}{x:α}:tH r S cs [x]↔r.rc S cs x:=by
 constructor
 ·rintro⟨a,b,rfl,h,hb⟩
  rw [show b=[]from hb,yb];exact h
 ·intro h;exact⟨cs,[],by simp,h,rfl⟩
variable{i:Nat}
theorem Bs{r:Rp α}(h:tH r S cs xs){x:α}(hx:xs[i]? =some x):
  r.rc S ((cs.drop (i*r.sz)).take r.sz) x:=by
 have hi:i<xs.length:=(oT.1 hx).1
 have e:xs=xs.take i++(x::xs.drop (i+1)):=by
  have:=oT.1 hx
  rw [←this.2,←pW hi,sS]
 have hl:(xs.take i).length=i:=by simp;omega
 rw [e]at h
 have h2:=(pm h).2
 rw [hl]at h2
 obtain⟨a,b,e2,h3,_⟩:=h2
 rw [e2,←r.len h3,List.take_left]
 exact h3

def Gw{α:Type}(r:Rp α)(S:SH)(a:Option Addr)(xs:List α):Prop:=
 xs=[]∨ ∃b off c E fr,a=some ⟨b,off,none⟩∧S b=some (.cells c E fr)∧tH r S ((c.toList.drop off).take (xs.length*r.sz)) xs
def eU{α:Type}(r:Rp α):Rp (List α) where
 sz:=1
 agg:=false
 rc:=fun S cs xs=> ∃a cap,cs=[.slice a xs.length cap]∧xs.length≤cap∧cap≤maxLen∧Gw r S a xs
 mono:=fun h ⟨a,cap,e,h1,h2,h3⟩=>⟨a,cap,e,h1,h2,h3.imp id fun⟨b,off,c,E,fr,e1,e2,e3⟩=>by
  obtain⟨o',h4,h5⟩:=h _ _ e2
  obtain⟨c',rfl,h6⟩:=Co h5 (nh e3)
  exact⟨b,off,c',E,fr,e1,h4,by rw [h6];exact ro h e3⟩⟩
 len:=fun⟨a,cap,e,_⟩=>by rw [e];rfl
 one:=fun⟨a,cap,e,_⟩ c hc=>by rw [e]at hc;simp at hc;subst hc;rfl
 sc:=fun _=>rfl
variable{cap:Nat}
theorem mD{r:Rp α}:(tD (eU r) xs).p S v↔ ∃a cap,v= .slice a xs.length cap∧xs.length≤cap∧cap≤maxLen∧Gw r S a xs:=by
 constructor
 ·rintro⟨cs,rfl,a,cap,rfl,h⟩;exact⟨a,cap,rfl,h⟩
 ·rintro⟨a,cap,rfl,h⟩;exact⟨_,rfl,a,cap,rfl,h⟩
theorem EU{r:Rp α}:(tD (eU r) []).p S (.slice none 0 0):=mD.2 ⟨none,0,rfl,dN _,gx _,.inl rfl⟩

def bw{α:Type}(r:Rp α)(x:α):Ty where
 p:=fun S v=> ∃b off c E fr,v= .pointer (some ⟨b,off,none⟩)∧S b=some (.cells c E fr)∧r.rc S ((c.toList.drop off).take r.sz) x
 mono:=fun h ⟨b,off,c,E,fr,e1,e2,e3⟩=>by
  obtain⟨o',h4,h5⟩:=h _ _ e2
  obtain⟨c',rfl,h6⟩:=Co h5 (r.len e3)
  exact⟨b,off,c',E,fr,e1,h4,by rw [h6];exact r.mono h e3⟩

def glob:List (Nat×List Value):=[(0,[.string ⟨([98,111,111,108]:List UInt8).toArray⟩,.int .i64 (1),.string ⟨([105,110,116]:List UInt8).toArray⟩,.int .i64 (2),.string ⟨([116,101,120,116]:List UInt8).toArray⟩,.int .i64 (3)]),(1,[.string ⟨([83,69,76,69,67,84]:List UInt8).toArray⟩,.string ⟨([68,73,83,84,73,78,67,84]:List UInt8).toArray⟩,.string ⟨([70,82,79,77]:List UInt8).toArray⟩,.string ⟨([76,69,70,84]:List UInt8).toArray⟩,.string ⟨([74,79,73,78]:List UInt8).toArray⟩,.string ⟨([79,78]:List UInt8).toArray⟩,.string ⟨([87,72,69,82,69]:List UInt8).toArray⟩,.string ⟨([71,82,79,85,80]:List UInt8).toArray⟩,.string ⟨([66,89]:List UInt8).toArray⟩,.string ⟨([72,65,86,73,78,71]:List UInt8).toArray⟩,.string ⟨([85,78,73,79,78]:List UInt8).toArray⟩,.string ⟨([65,76,76]:List UInt8).toArray⟩,.string ⟨([79,82,68,69,82]:List UInt8).toArray⟩,.string ⟨([76,73,77,73,84]:List UInt8).toArray⟩,.string ⟨([65,83,67]:List UInt8).toArray⟩,.string ⟨([68,69,83,67]:List UInt8).toArray⟩,.string ⟨([65,83]:List UInt8).toArray⟩,.string ⟨([65,78,68]:List UInt8).toArray⟩,.string ⟨([79,82]:List UInt8).toArray⟩,.string ⟨([78,79,84]:List UInt8).toArray⟩,.string ⟨([73,83]:List UInt8).toArray⟩,.string ⟨([78,85,76,76]:List UInt8).toArray⟩,.string ⟨([84,82,85,69]:List UInt8).toArray⟩,.string ⟨([70,65,76,83,69]:List UInt8).toArray⟩,.string ⟨([67,79,85,78,84]:List UInt8).toArray⟩,.string ⟨([83,85,77]:List UInt8).toArray⟩,.string ⟨([77,73,78]:List UInt8).toArray⟩,.string ⟨([77,65,88]:List UInt8).toArray⟩])]
def K0(w:World):Prop:=Lib.CaseVar 2 Lib.caseA w∧Lib.Utf8Tabs 4 5 w
structure ii(w:World)(S:SH):Prop where
 at_: ∀b o,S b=some o→ ∃o',w.heap[b]? =some o' ∧Dc o o'
 gl: ∀p∈glob,∃c T fr,S p.1=some (.cells c T fr)∧c.toList.take p.2.length=p.2
 tb: ∀w' :World,(∀b o,S b=some o→ ∃o',w'.heap[b]? =some o' ∧Dc o o')→K0 w'
instance{w:World}{S:SH}:CoeFun (ii w S) (fun _=> ∀b o,S b=some o→ ∃o',w.heap[b]? =some o' ∧Dc o o'):=⟨ii.at_⟩
variable{w:World}
theorem ii.tab(h:ii w S):K0 w:=h.tb w h.at_
theorem ii.lt(h:ii w S){b:Nat}{o:Obj}(k:S b=some o):b<w.heap.size:=let⟨_,h1,_⟩:=h b o k;(sU.1 h1).1
theorem ii.part(h:ii w S){b:Nat}{c:Array Value}{E:TypeId}(k:S b=some (.cells c E fr)){n:Nat}(hl:((c.toList.drop off).take n).length=n):
  ∃c',w.heap[b]? =some (.cells c' E fr)∧(c'.toList.drop off).take n=(c.toList.drop off).take n:=by
 obtain⟨o',h1,h2⟩:=h b _ k
 obtain⟨c',rfl,h3⟩:=Co h2 hl
 exact⟨c',h1,h3⟩
variable{w' :World}
theorem ii.same(h:ii w S)(k: ∀b o,S b=some o→w'.heap[b]? =w.heap[b]?):ii w' S:=⟨fun b o e=>by rw [k b o e];exact h b o e,h.gl,h.tb⟩

def nZ:Nat→Prop:=fun _=>False
structure fN(B:Nat→Prop)(w:World)(S:SH)(w' :World)(S' :SH):Prop where
 os:w'.os=w.os
 tape:w'.tape=w.tape
 output:w'.output=w.output
 drawn:w.drawn≤w'.drawn
 size:w.heap.size≤w'.heap.size
 heap: ∀k,k<w.heap.size→ ¬B k→w'.heap[k]? =w.heap[k]?
 keep:SH.le S S'
 old: ∀k,k<w.heap.size→ ¬B k→S' k=S k
theorem fi(B:Nat→Prop)(w:World)(S:SH):fN B w S w S:=⟨rfl,rfl,rfl,dN _,dN _,fun _ _ _=>rfl,SH.le_refl _,fun _ _ _=>rfl⟩
variable{w'' :World}
theorem fN.trans{B:Nat→Prop}(h:fN B w S w' S')(k:fN B w' S' w'' S''):fN B w S w'' S'' :=
 ⟨k.os.trans h.os,k.tape.trans h.tape,k.output.trans h.output,kZ h.drawn k.drawn,kZ h.size k.size,
  fun i hi hb=>(k.heap i (u4 hi h.size) hb).trans (h.heap i hi hb),SH.le_trans h.keep k.keep,
  fun i hi hb=>(k.old i (u4 hi h.size) hb).trans (h.old i hi hb)⟩
variable{C:Nat→Prop}
theorem fN.step{B:Nat→Prop}(h:fN B w S w' S')(k:fN C w' S' w'' S'')(hC: ∀b,C b→w.heap.size≤b∨B b):fN B w S w'' S'' :=
 ⟨k.os.trans h.os,k.tape.trans h.tape,k.output.trans h.output,kZ h.drawn k.drawn,kZ h.size k.size,
  fun i hi hb=>(k.heap i (u4 hi h.size) (fun hc=>(hC i hc).elim (fun h=>by omega) hb)).trans (h.heap i hi hb),SH.le_trans h.keep k.keep,
  fun i hi hb=>(k.old i (u4 hi h.size) (fun hc=>(hC i hc).elim (fun h=>by omega) hb)).trans (h.old i hi hb)⟩
theorem fN.more{B:Nat→Prop}(h:fN B w S w' S')(k: ∀b,B b→C b):fN C w S w' S' :=
 ⟨h.os,h.tape,h.output,h.drawn,h.size,fun i hi hb=>h.heap i hi (fun h=>hb (k i h)),h.keep,fun i hi hb=>h.old i hi (fun h=>hb (k i h))⟩
theorem fN.step0{B:Nat→Prop}(h:fN B w S w' S')(k:fN nZ w' S' w'' S''):fN B w S w'' S'' :=h.step k fun _ hb=>hb.elim

structure OE where
 fp:Nat→Prop
 p:World→SH→Prop
 here: ∀{w S},p w S→ ∀k,fp k→k<w.heap.size
 kept: ∀{C w w' S S'},p w S→fN C w S w' S' →(∀k,fp k→ ¬C k)→p w' S'
def OE.holds(e:OE)(base:Nat)(B:Nat→Prop)(w:World)(S:SH):Prop:=e.p w S∧ ∀k,e.fp k→base≤k∨B k
def OE.apart(e f:OE):Prop:= ∀b,e.fp b→ ¬f.fp b
def cI(base:Nat)(B:Nat→Prop)(w:World)(S:SH):List OE→Prop
 |[]=>True
 |e::O=>e.holds base B w S∧(∀f∈O,e.apart f)∧cI base B w S O
theorem F0{e:OE}{base:Nat}{B:Nat→Prop}(h:e.holds base B w S)(k:fN C w S w' S')(hC: ∀b,e.fp b→ ¬C b):e.holds base B w' S' :=⟨e.kept h.1 k hC,h.2⟩
variable{O:List OE}{f:FuncId}
theorem cI.ext{base:Nat}{B:Nat→Prop}(k:fN C w S w' S'): ∀{O:List OE},cI base B w S O→(∀e∈O,∀b,e.fp b→ ¬C b)→cI base B w' S' O
 |[],_,_=>trivial
 |e::_,⟨h1,h2,h3⟩,hC=>⟨F0 h1 k (hC e (nm ..)),h2,cI.ext k h3 fun f hf=>hC f (nE _ hf)⟩
theorem cI.ext0{base:Nat}{B:Nat→Prop}(k:fN nZ w S w' S')(h:cI base B w S O):cI base B w' S' O:=
 h.ext k fun _ _ _ _ hb=>hb
theorem cI.mem{base:Nat}{B:Nat→Prop}: ∀{O:List OE},cI base B w S O→ ∀e∈O,e.holds base B w S
 |_::_,⟨h1,_,_⟩,_,.head _=>h1
 |_::_,⟨_,_,h3⟩,_,.tail _ hm=>cI.mem h3 _ hm

abbrev kW:=List (Nat×Ty)
def look:kW→Nat→Option Ty
 |[],_=>none
 |(k,t)::G,j=>bif Nat.beq k j then some t else look G j
structure Fr where
 n:Nat
 ds:List Deferred
structure cR(N:Fr)(S:SH)(a:Act)(G:kW):Prop where
 size:a.tmps.size=N.n
 defers:a.defers=N.ds
 at_: ∀k t,look G k=some t→t.p S (a.tmps.getD k undef)
variable{G:kW}{j:Nat}{t:Ty}
theorem cR.mono{N:Fr}(h:cR N S a G)(k:SH.le S S'):cR N S' a G:=⟨h.size,h.defers,fun j t e=>t.mono k (h.at_ j t e)⟩
theorem cR.sub{N:Fr}{G' :kW}(h:cR N S a G)(k: ∀j t,look G' j=some t→look G j=some t):cR N S a G' :=⟨h.size,h.defers,fun j t e=>h.at_ j t (k j t e)⟩
variable{u:OE}
theorem cR.put{N:Fr}(h:cR N S a G)(hd:Nat.blt d N.n=true)(hv:t.p S v):cR N S (a.put (some d) v) ((d,t)::G):=by
 have hd' :d<N.n:=by simpa [tk] using hd
 refine⟨by simp [Act.put,h.size],h.defers,fun j u e=>?_⟩
 unfold look at e
 by_cases hj:d=j
 ·subst hj
  have e' :t=u:=by simpa using e
  rw [e']at hv
  simp [Act.put,EM,h.size,hd',hv]
 ·have hb:Nat.beq d j=false:=by cases hh:Nat.beq d j with
   |false=>rfl
   |true=>exact absurd (mQ hh) hj
  rw [hb]at e
  have:=h.at_ j u e
  simpa [Act.put,EM,Array.getElem?_setIfInBounds,hj] using this
def Iw:kW→kW→Prop
 |[],_=>True
 |(k,t)::G',G=>look G k=some t∧Iw G' G
theorem DI: ∀{G' G:kW},Iw G' G→ ∀j t,look G' j=some t→look G j=some t
 |(k,t)::G',G,⟨h1,h2⟩,j,u,e=>by
  unfold look at e
  by_cases hb:Nat.beq k j=true
  ·rw [hb]at e
   have:=mQ hb
   subst this
   simp only [cond_true]at e
   rw [←e];exact h1
  ·rw [yc]at hb
   rw [hb]at e
   exact DI h2 j u e

def aK(N:Fr)(G:kW)(x:Operand)(t:Ty):Prop:= ∀S a,cR N S a G→t.p S (a.eval x)
theorem ht{N:Fr}(h:look G k=some t):aK N G (.tmp k) t:=fun _ _ hF=>hF.at_ k t h
theorem hI{N:Fr}{k:IntKind}{n:Int}:aK N G (.const (.int k n)) (tD (rI k) n):=fun _ _ _=>dO.2 rfl
theorem hB{N:Fr}:aK N G (.const (.bool b)) (tD rB b):=fun _ _ _=>iP.2 rfl
theorem hS{N:Fr}{s:Array UInt8}:aK N G (.const (.string ⟨s⟩)) (tD rS s.toList):=fun _ _ _=>vl.2 rfl
theorem lU{N:Fr}{r:Rp α}:aK N G (.const (.slice none 0 0)) (tD (eU r) []):=fun _ _ _=>EU
theorem hV{N:Fr}:aK N G (.const v) (tV v):=fun _ _ _=>rfl

variable{R:Ending→World→Prop}{args:α→List Ty}{bytes:Nat}{done:Array Bool}{es:Array Event}{g:Option (Nat×Bool)}{gs:Nat}{l:Option Nat}{m m' :Machine}{ops:Array Oper}{q:Bool}{rest:List Oper}
section
variable{P:Program}
def wOf{α:Type}:Result α→World
 | .ok _ w=>w
 | .halt _ w=>w
theorem Fs(w:World)(a:Addr)(n:Nat):(w.freeze a n).drawn=w.drawn:=by unfold World.freeze;split<;>rfl
theorem A8{at_:Addr}{u:TypeId}{k:Addr}{x:Bool}{r:World×List Addr}(h:w.viewStore P at_ u k v x= .ok r):r.1.drawn=w.drawn:=by
 unfold World.viewStore at h
 simp only [bind,Except.bind,pure,Except.pure,throw,throwThe,MonadExceptOf.throw]at h
 repeat' (split at h)
 all_goals first
  |(cases h;done)
  |(cases h;rfl)
theorem CB{a:Addr}{x:Bool}{r:World×List Addr}(h:w.farStore P a v x= .ok r):r.1.drawn=w.drawn:=by
 unfold World.farStore at h
 split at h
 ·split at h
  ·rename_i h2;cases h;exact A8 h2
  ·cases h
 ·cases h
theorem Ac{α:Type}: ∀(a:Ask α) (w:World),w.drawn≤(w.ask a).2.drawn
 | .done a,w=>dN _
 | .ask what range k,w=>by
  unfold World.ask
  simp only
  split
  ·exact Ac (k 0) w
  ·exact kZ (Nat.le_succ _) (Ac (k ((Question.extern what range).cut (w.tape w.drawn (Question.extern what range)))) {w with drawn:=w.drawn+1})
theorem K8(w:World)(c:Sys):w.drawn≤(w.sys c).2.drawn:=by
 unfold World.sys
 have h:=Ac (Kernel.perform c w.os) w
 split
 ·exact dN _
 ·rename_i h2
  rw [h2]at h
  exact h
theorem gn{α:Type}: ∀(s:Sem α) (w:World),w.drawn≤(wOf (s.run P w)).drawn
 | .pure a,w=>dN _
 | .load m a k,w=>by
  unfold Sem.run
  split
  ·exact gn _ w
  ·split
   ·exact gn _ w
   ·exact dN _
 | .store m a v k,w=>by
  have key:w.drawn≤(wOf (match w.cell? a with
   |some _=>if w.frozen? a then .halt (.unsupported (.unsafePointer "a write to bytes that a string shares")) w else k.run P (w.setCell a v)
   |none=>match w.farStore P a v (m== .atomic)with
    | .ok (w,_)=>k.run P w
    | .error h=> .halt h w)).drawn:=by
   split
   ·split
    ·exact dN _
    ·exact gn k (w.setCell a v)
   ·split
    ·rename_i w' l h
     have:=gn k w'
     rw [show w'.drawn=w.drawn from CB h]at this
     exact this
    ·exact dN _
  cases v<;>first|exact dN _|(simp only [Sem.run];exact key)
 | .new o k,w=>gn (k w.heap.size) {w with heap:=w.heap.push o}
 | .shape r k,w=>gn (k (w.shape? r)) w
 | .freeze a n k,w=>by
  have:=gn k (w.freeze a n)
  rw [Fs]at this
  exact this
 | .frozen a k,w=>gn (k (w.frozen? a)) w
 | .getObj r k,w=>by
  unfold Sem.run
  split
  ·exact dN _
  ·exact gn _ w
  ·exact dN _
 | .setObj r o k,w=>by
  unfold Sem.run
  split
  ·exact dN _
  ·exact gn k {w with heap:=w.heap.setIfInBounds r o}
  ·exact dN _
 | .choose q k,w=>by
  unfold Sem.run
  split
  ·exact gn (k 0) w
  ·exact kZ (Nat.le_succ _) (gn (k (q.cut (w.tape w.drawn q))) {w with drawn:=w.drawn+1})
 | .sys c k,w=>by
  exact kZ (K8 w c) (gn (k (w.sys c).1) (w.sys c).2)
 | .program k,w=>gn (k P) w
 | .mark m k,w=>gn k w
 | .halt h,w=>dN _
theorem cG{x:α}(h:s.run P w= .ok x w'):w.drawn≤w'.drawn:=by
 have:=gn (P:=P) s w
 rw [h]at this
 exact this
theorem mo{x:Halt}(h:s.run P w= .halt x w'):w.drawn≤w'.drawn:=by
 have:=gn (P:=P) s w
 rw [h]at this
 exact this
theorem Lx{x:α}{es' :Array Event}(h:s.runT P w es=(.ok x w',es')):w.drawn≤w'.drawn:=
 cG (P:=P) (s:=s) (x:=x) (by rw [←Al P s w es,h])
theorem Hu{x:Halt}{es' :Array Event}(h:s.runT P w es=(.halt x w',es')):w.drawn≤w'.drawn:=
 mo (P:=P) (s:=s) (x:=x) (by rw [←Al P s w es,h])
theorem A7{rest:Rest}{cases:Array CommCase}(h:waitingAt rest cases w=some w'):w'.drawn=w.drawn:=by
 unfold waitingAt at h
 repeat' (split at h)
 all_goals (cases h;try rfl)
theorem zg(rest:Rest)(gs:Array Goroutine)(i:Nat)(g:Goroutine)(cases:Array CommCase)(blocking:Bool)
  (shape:CommShape)(w:World)(m' :Machine)(h:(communicate P rest gs i g cases blocking shape w).1= .next m'):w.drawn≤m'.world.drawn:=by
 unfold communicate at h
 simp only []at h
 repeat' first
  |(simp at h;done)
  |(simp only [yd]at h;subst h;(try dsimp only);exact dN _)
  |(simp only [yd]at h;subst h;(try dsimp only);exact cG (by assumption))
  |(simp only [yd]at h;subst h;(try dsimp only);exact yh (A7 (by assumption)).symm)
  |(simp only [yd]at h;subst h;(try dsimp only);exact kZ (cG (by assumption)) (cG (by assumption)))
  |(simp only [yd]at h;subst h;(try dsimp only);exact kZ (cG (by assumption)) (mo (by assumption)))
  |split at h
theorem Ct(gs:Array Goroutine)(rest:Rest)(w:World)(m' :Machine)
  (h:Go.look P gs rest w= .next m'):w.drawn≤m'.world.drawn:=by
 unfold Go.look at h
 simp only []at h
 repeat' first
  |(simp at h;done)
  |(simp only [yd]at h;subst h;(try dsimp only);exact cG (by assumption))
  |split at h
def Bw(d:Nat):GStep→Prop
 | .go _ w _=>d≤w.drawn
 | .comm _ _ _ _ w _=>d≤w.drawn
 | .spawn _ _ w _=>d≤w.drawn
 | .count _ w _=>d≤w.drawn
 | .timer _ _ w _=>d≤w.drawn
 | .alone _ _ w _=>d≤w.drawn
 | .newcoro _ _ _ w _=>d≤w.drawn
 | .coroswitch _ _ _ w _=>d≤w.drawn
 | .collect _ w _=>d≤w.drawn
 | .watch _ w _=>d≤w.drawn
 | .ended _ _ _=>True
theorem py{s:GStep}(h:Bw d s):Bw d (s.after es):=by cases s<;>exact h
theorem rx{e:Nat}{s:GStep}(h:Bw d s)(k:e≤d):Bw e s:=by
 cases s<;>first|exact kZ k h|trivial
theorem Jo(d:Nat)(w:World)(fd:Nat)(text:ByteArray)(o:Outcome):Bw d (endWith w fd text o):=by
 unfold endWith
 repeat' split
 all_goals trivial
theorem Oe(fr:Frame)(fm:List ByteArray)(m:String)(whole:Bool)(w:World):Bw w.drawn (dieOf fr fm m whole w):=dN _
theorem sJ(fr:Frame)(m:String)(w:World):Bw w.drawn (endThrow fr m w):=dN _
theorem v7(fr:Frame)(v:Value)(w:World):Bw w.drawn (endPrinting P fr v w):=by
 unfold endPrinting
 simp only []
 split
 ·exact dN _
 ·trivial
theorem AU(fr:Frame)(callers:List Frame)(dying:Option Dying)(m:String)(w:World):Bw w.drawn (endFatal P fr callers dying m w):=by
 unfold endFatal
 simp only []
 split
 ·exact rx (Oe _ _ _ _ _) (cG (by assumption))
 ·trivial
 ·trivial
theorem Ii(fr:Frame)(d:Dying)(f:Fatal)(w:World):Bw w.drawn (writeOn P fr d f w):=by
 unfold writeOn
 simp only []
 split
 ·trivial
 ·split
  ·exact Lx (by assumption)
  ·exact Hu (by assumption)
  ·trivial
  ·trivial
theorem SM(fr:Frame)(d:Dying)(w:World):Bw w.drawn (die P fr d w):=by
 unfold die
 simp only []
 split
 ·exact Ii _ _ _ _
 ·split
  ·split
   ·exact dN _
   ·exact Jo _ _ _ _ _
  ·split
   ·exact dN _
   ·split
    ·exact cG (by assumption)
    ·trivial
   ·apply py
    split
    ·exact cG (P:=P) (by rw [←Al];assumption)
    ·exact cG (P:=P) (by rw [←Al];assumption)
    ·trivial
    ·exact rx (v7 _ _ _) (mo (P:=P) (by rw [←Al];assumption))
    ·trivial
   ·trivial
theorem pu{x:α}(h:(s.runT P w es).1= .ok x w'):w.drawn≤w'.drawn:=cG (P:=P) (s:=s) (x:=x) (by rw [←Al P s w es,h])
theorem sD{x:Halt}(h:(s.runT P w es).1= .halt x w'):w.drawn≤w'.drawn:=mo (P:=P) (s:=s) (x:=x) (by rw [←Al P s w es,h])
theorem wa(main:Bool)(fr:Frame)(callers:List Frame)(dying:Option Dying)(v:Value)(w:World):Bw w.drawn (doReturn P main fr callers dying v w):=by
 unfold doReturn
 simp only []
 repeat' split
 all_goals first|exact dN _|trivial
theorem Fn{c:Prop} [Decidable c]{a b:GStep}(ha:Bw d a)(hb:Bw d b):Bw d (if c then a else b):=by split<;>assumption
theorem Bk(fr:Frame)(callers:List Frame)(dying:Option Dying)(d:Deferred)(w:World):Bw w.drawn (callDeferred P fr callers dying d w):=by
 unfold callDeferred
 simp only []
 refine Fn trivial (py ?_)
 split
 all_goals first
  |exact pu (by assumption)
  |exact sD (by assumption)
  |trivial
  |exact rx (AU _ _ _ _ _) (sD (by assumption))
  |exact rx (sJ _ _ _) (sD (by assumption))
  |(split<;>exact pu (by assumption))
theorem KW(main:Bool)(fr:Frame)(callers:List Frame)(dying:Option Dying)(w:World):Bw w.drawn (unwind P main fr callers dying w):=by
 unfold unwind
 simp only []
 split
 ·apply py
  split
  ·exact pu (by assumption)
  ·trivial
 ·exact Bk _ _ _ _ _
 ·split
  ·trivial
  ·split
   ·trivial
   ·split
    ·exact dN _
    ·split
     ·split
      ·exact dN _
      ·split
       ·exact cG (by assumption)
       ·trivial
       ·trivial
     ·split
      ·exact v7 _ _ _
      ·trivial
  ·split
   ·exact wa _ _ _ _ _ _
   ·apply py
    split
    ·exact rx (wa _ _ _ _ _ _) (pu (by assumption))
    ·trivial
    ·trivial
theorem Oa(fr:Frame)(callers:List Frame)(dying:Option Dying)(g:Nat)(w:World):Bw w.drawn (early P fr callers dying g w):=by
 have hn: ∀w1:World,w.drawn≤w1.drawn→Bw w.drawn (match w1.heap[g]? with
   |some (.pending c elem)=> .go {frame:=fr,callers,status:= .running,dying} {w1 with heap:=w1.heap.setIfInBounds g (.cells c elem)}
   |_=> .ended (.stuck "early: the variable does not wait" (fr.pos P)) w1):=fun w1 h=>by
  split
  ·exact h
  ·trivial
 unfold early
 simp only []
 repeat' first
  |trivial
  |exact hn _ (dN _)
  |exact dN _
  |exact hn _ (cG (by assumption))
  |exact cG (P:=P) (by assumption)
  |split
theorem wc(main:Bool)(listen:Bool)(fr:Frame)(callers:List Frame)(dying:Option Dying)(s:Sem Next)(w:World):Bw w.drawn (stepG.apply P listen fr callers dying s w):=by
  unfold stepG.apply
  simp only []
  apply py
  have hr:(if listen=true then s.runT P w #[]else(s.run P w,#[])).1=s.run P w:=by
    split
    · exact Al _ _ _ _
    · rfl
  rw [hr]
  split
  all_goals first
    |exact cG (by assumption)
    |exact mo (by assumption)
    |trivial
    |exact rx (AU _ _ _ _ _) (mo (by assumption))
    |exact rx (sJ _ _ _) (mo (by assumption))
    |exact rx (Oa _ _ _ _ _) (mo (by assumption))
    | (repeat' split
       all_goals first
        |exact cG (by assumption)
        |exact rx (sJ _ _ _) (cG (by assumption)))
theorem O8(main listen:Bool)(fr:Frame)(callers:List Frame)(dying:Option Dying)(w:World):Bw w.drawn (stepG.oper P listen fr callers dying w):=by
 unfold stepG.oper
 split
 ·trivial
 ·split
  ·exact wc main _ _ _ _ _ _
  ·exact wc main _ _ _ _ _ _
theorem Qj(main listen:Bool)(fr:Frame)(callers:List Frame)(dying:Option Dying)(w:World):Bw w.drawn (stepG.exec P main listen fr callers dying w):=by
 have leave: ∀(c:Prop) (_:Decidable c) (jump:Option Code),Bw w.drawn (match fr.roundOf with
   |none=>if c then GStep.go {frame:={fr with mode:= .returning},callers,status:= .running,dying} w else .ended (.stuck "exit, goto: no such block or label" (fr.pos P)) w
   |some l=>GStep.after (seen P fr.fn ((Instr.endRound l jump).runT P w #[]).2) (match ((Instr.endRound l jump).runT P w #[]).1 with
    | .ok v w=>doReturn P main fr callers dying v w
    | .halt _ w=> .ended (.stuck "range over a function: no such loop" (fr.pos P)) w)):=fun c _ jump=>by
  split
  ·exact Fn (dN _) trivial
  ·apply py
   split
   ·exact rx (wa _ _ _ _ _ _) (pu (by assumption))
   ·trivial
 unfold stepG.exec
 simp only []
 split
 all_goals first
  |exact leave _ _ _
  |exact dN _
  |exact wc main _ _ _ _ _ _
  |trivial
  |(split<;>first|exact dN _|trivial)
  |(cases h:exitTo _ _<;>first|exact dN _|exact leave _ _ _)
  |(cases h:gotoIn _ _<;>first|exact dN _|exact leave _ _ _)
  |(cases h:Extern.next _<;>first|trivial|exact wc main _ _ _ _ _ _)
  |(apply py;split<;>first|trivial|exact pu (by assumption)|exact sD (by assumption)|exact rx (wc main _ _ _ _ _ _) (pu (by assumption)))
  |(refine Fn (dN _) ?_;split<;>first|trivial|exact cG (by assumption))
  |(refine Fn ?_ (dN _);exact O8 main _ _ _ _ _)
  |skip
theorem MK(main listen:Bool)(g:Goroutine)(w:World):Bw w.drawn (stepG P main g w listen):=by
 unfold stepG
 simp only []
 split
 ·exact SM _ _ _
 ·exact Qj _ _ _ _ _ _
 ·exact KW _ _ _ _ _
theorem C4{op:TimerOp}(h:timerOp m op= .ok (v,m')):m.world.drawn≤m'.world.drawn:=by
 have hr: ∀(m0:Machine) (k:Nat) (t:Timer) (when_ period:Nat),(retime m0 k t when_ period).2.world.drawn=m0.world.drawn:=fun m0 k t a b=>by
  unfold retime drain
  cases t.chan with
  |none=>rfl
  |some c=>simp only [];split<;>rfl
 have ho: ∀{var:Addr} {m0:Machine},timerOp.opened m var=some m0→m0.world.drawn=m.world.drawn:=fun{var m0} h=>by
  unfold timerOp.opened at h
  repeat' (split at h)
  all_goals (cases h;try rfl)
 have hn: ∀{var:Addr} {m0:Machine} {f:Nat→Timer→Value×Machine} {r:Value×Machine},timerOp.named m0 var f= .ok r→ ∃k t,r=f k t:=fun{var m0 f r} h=>by
  unfold timerOp.named at h
  split at h
  ·cases h;exact⟨_,_,rfl⟩
  ·cases h
 unfold timerOp at h
 split at h
 ·repeat' (split at h)
  all_goals first
   |(cases h;exact dN _)
   |(cases h;done)
 ·obtain⟨k,t,e⟩:=hn h
  rw [show m' =(retime m k t 0 t.period).2 from congrArg Prod.snd e,hr]
  exact dN _
 ·split at h
  ·rename_i m0 hm0
   obtain⟨k,t,e⟩:=hn h
   rw [show m' =(retime m0 k t _ _).2 from congrArg Prod.snd e,hr,ho hm0]
   exact dN _
  ·cases h
 ·simp only [Except.ok.injEq,Prod.mk.injEq]at h
  rw [←h.2]
  exact dN _
theorem HF{fr:Frame}{m:String}{g:Goroutine}(h:endThrow fr m w= .go g w' es):w.drawn≤w'.drawn:=by
 have:=sJ fr m w
 rw [h]at this
 exact this
theorem II(m m' :Machine)(i:Nat)(b:Bool)(h:(runT P m i b).1= .next m'):m.world.drawn≤m'.world.drawn:=by
  simp only [runT]at h
  revert h
  generalize m.gs.swapAt! _ _=gg
  have hs:=MK (P:=P) (i==0) b gg.1 m.world
  revert hs
  generalize stepG P _ gg.1 m.world b=s
  intro hs h
  cases s<;>simp only []at h
  all_goals first
    |(simp at h;done)
    |exact kZ hs (zg _ _ _ _ _ _ _ _ _ h)
    |exact kZ hs (Ct _ _ _ _ h)
    |(simp only [yd]at h;subst h;exact hs)
    |(repeat' first
        |(simp at h;done)
        |(simp only [yd]at h;subst h;exact hs)
        |(simp only [yd]at h;subst h;exact kZ hs (C4 (by assumption)))
        |(simp only [yd]at h;subst h;exact kZ hs (HF (by assumption)))
        |split at h)
theorem GG(m m' :Machine)(k:Nat)(h:serve P m k= .next m'):m.world.drawn≤m'.world.drawn:=by
 unfold serve at h
 simp only []at h
 repeat' first
  |(simp at h;done)
  |(simp only [yd]at h;subst h;exact dN _)
  |split at h
theorem HP(m m' :Machine)(ops:Array MemOp)(h:askOn P m= .machine (.next m') ops):m.world.drawn≤m'.world.drawn:=by
 unfold askOn at h
 simp only []at h
 repeat' first
  |(simp at h;done)
  |(simp only [Move.machine.injEq]at h;exact kZ (cG (by assumption)) (GG _ _ _ h.1))
  |(simp only [Move.machine.injEq,yd]at h;obtain⟨rfl,_⟩:=h;(try simp only [Machine.advanceTo]);exact cG (by assumption))
  |(simp only [Move.machine.injEq,yd]at h;obtain⟨rfl,_⟩:=h;(try simp only [Machine.advanceTo]);exact kZ (cG (by assumption)) (cG (by assumption)))
  |split at h
theorem Eb{gs:Array Goroutine}{rest:Rest}{t:Nat}{x:α}(h:s.run P (Machine.advanceTo {world:=w,gs:=gs,rest:=rest} t).world= .ok x w'):w.drawn≤w'.drawn:=by
 have:=cG h
 simpa only [Machine.advanceTo] using this
theorem FS(m m' :Machine)(i:Nat)(h:askOn P m= .goroutine m' i):m.world.drawn≤m'.world.drawn:=by
  unfold askOn at h
  simp only []at h
  repeat' first
    |(simp at h;done)
    |(simp only [Move.goroutine.injEq]at h;rw [←h.1];(try simp only [Machine.advanceTo]);first
        |exact cG (by assumption)
        |exact kZ (cG (by assumption)) (cG (by assumption))
        |exact kZ (cG (by assumption)) (kZ (cG (by assumption)) (cG (by assumption)))
        |exact kZ (cG (by assumption)) (kZ (cG (by assumption)) (kZ (cG (by assumption)) (cG (by assumption))))
        |exact kZ (cG (by assumption)) (kZ (cG (by assumption)) (Eb (by assumption)))
        |exact kZ (cG (by assumption)) (kZ (cG (by assumption)) (kZ (Eb (by assumption)) (cG (by assumption)))))
    |split at h
theorem CJ(m:Machine):(∃m₂:Machine,m.world.drawn≤m₂.world.drawn∧ask P m=askOn P m₂)∨(∃o w,ask P m= .machine (.ended o w) #[]):=by
 unfold ask
 by_cases hw:m.rest.watch=true
 ·rw [bm hw]
  cases hc:(choose (.extern "collector.look" 2)).run P m.world with
  |halt h w=>exact .inr ⟨_,_,rfl⟩
  |ok k world=>
   have e1:=cG hc
   rcases k with _|_|k
   ·exact .inl ⟨{m with world},e1,rfl⟩
   ·show(∃m₂:Machine,m.world.drawn≤m₂.world.drawn∧(match Go.look P m.gs m.rest world with| .next m=>askOn P m|e=>Move.machine e)=askOn P m₂)∨
     (∃o w,(match Go.look P m.gs m.rest world with| .next m=>askOn P m|e=>Move.machine e)= .machine (.ended o w) #[])
    cases hl:Go.look P m.gs m.rest world with
    |next m₂=>exact .inl ⟨m₂,kZ e1 (Ct _ _ _ _ hl),rfl⟩
    |ended o w=>exact .inr ⟨o,w,rfl⟩
   ·exact .inl ⟨{m with world},e1,rfl⟩
 ·simp only [hw,mz,iM]
  exact .inl ⟨m,dN _,rfl⟩
theorem I4(m m' :Machine)(ops:Array MemOp)(h:move P m= .machine (.next m') ops):m.world.drawn≤m'.world.drawn:=by
 have ha: ∀m1:Machine,m1.world.drawn=m.world.drawn→ask P m1= .machine (.next m') ops→m.world.drawn≤m'.world.drawn:=fun m1 e h=>by
  rcases CJ (P:=P) m1 with⟨m₂,hs,he⟩|⟨o,w,he⟩
  ·rw [he]at h;rw [←e];exact kZ hs (HP m₂ m' ops h)
  ·rw [he]at h;simp at h
 unfold move at h
 repeat' first
  |(simp at h;done)
  |(refine ha _ ?_ h;rfl)
  |split at h
theorem Hd(m m' :Machine)(i:Nat)(h:move P m= .goroutine m' i):m.world.drawn≤m'.world.drawn:=by
 have ha: ∀m1:Machine,m1.world.drawn=m.world.drawn→ask P m1= .goroutine m' i→m.world.drawn≤m'.world.drawn:=fun m1 e h=>by
  rcases CJ (P:=P) m1 with⟨m₂,hs,he⟩|⟨o,w,he⟩
  ·rw [he]at h;rw [←e];exact kZ hs (FS m₂ m' i h)
  ·rw [he]at h;cases h
 unfold move at h
 repeat' first
  |(simp at h;done)
  |(refine ha _ ?_ h;rfl)
  |(simp only [Move.goroutine.injEq]at h;rw [←h.1];exact dN _)
  |split at h
theorem Ix(h:step P m= .next m'):m.world.drawn≤m'.world.drawn:=by
 simp only [step,stepT]at h
 split at h
 ·rename_i m₁ i hm
  exact kZ (Hd m m₁ i hm) (II m₁ m' i _ h)
 ·rename_i s ops hm
  simp only []at h
  subst h
  exact I4 m m' ops hm
theorem Au(h:Steps P m m'):m.world.drawn≤m'.world.drawn:=by
 obtain⟨n,hn⟩:=h
 induction n generalizing m with
 |zero=>simp only [runN,yd]at hn;rw [hn];exact dN _
 |succ n ih=>
  simp only [runN]at hn
  split at hn
  ·rename_i m1 h1
   exact kZ (Ix h1) (ih hn)
  ·rename_i hx
   exact absurd hn (hx _)
theorem HN{args:Array Value}(h:Calls P f args w R)(ho: ∀w',¬R .outgrown w'):Calls P f args w fun e w' =>R e w' ∧w.drawn≤w'.drawn:=fun cs=>by
 obtain⟨e,w',fr,hr,hc,h2⟩:=h cs
 refine⟨e,w',fr,⟨hr,?_⟩,hc,h2⟩
 cases e with
 |outgrown=>exact absurd hr (ho w')
 |returned v=>exact Au (show Steps P _ _ from hc)
 |panicked c=>exact Au (show Steps P _ _ from hc)
end

def fw(r:Option Nat):Fence:={fn:=fun _=>True,depth:=none,alive:=false,round:=r}
theorem jx{r:Option Nat}{n:Nat}{P:Program}{args:Array Value}:CallsIn (fw r) n P f args w R↔Calls P f args w R:=callsIn_wide
theorem Hv{r:Option Nat}{n:Nat}:(fw r).depth.isSome=true→1≤n:=fun h=>by cases h
structure En where
 P:Program
 N:Fr
 B:Nat→Prop
 w0:World
 S0:SH
 r:Option Nat
def En.base(E:En):Nat:=E.w0.heap.size

def RI(P:Program)(o:Oper)(a:Act)(K:Act→World→Prop):Result Next→Prop
 | .ok (.value v) w' =>K (a.put o.dst v) w'
 | .ok .skip w' =>K (a.put o.dst undef) w'
 | .ok (.enter f args) w' =>Calls P f args w' fun e w'' => ∃v,e= .returned v∧K (a.put o.dst v) w''
 | .ok (.round l f tmps assign body) w' =>RoundIn (fw none) 0 P l f tmps assign body w' fun e w'' => ∃v,e= .returned v∧K (a.put o.dst v) w''
 |_=>False
def G5(P:Program)(o:Oper)(a:Act)(w:World)(K:Act→World→Prop):Prop:=(∀c,o.op≠ .defer c)∧RI P o a K ((execOp a.eval o).run P w)
theorem IJ{r:Option Nat}{n:Nat}{P:Program}{l:Nat}{tmps:Array Value}{assign body:Code}(h:RoundIn (fw none) 0 P l f tmps assign body w R):RoundIn (fw r) n P l f tmps assign body w R:=
 ⟨trivial,fun c cs _=>h.2 c cs (fun _ hd=>by cases hd)⟩
variable{K K' :Act→World→Prop}
theorem Nb{P:Program}(hK: ∀a w,K a w→K' a w){r:Result Next}(h:RI P o a K r):RI P o a K' r:=by
 cases r with
 |ok n w=>
  cases n<;>simp only [RI]at h ⊢
  case value=>exact hK _ _ h
  case skip=>exact hK _ _ h
  case enter f args=>exact h.mono fun e w' ⟨v,he,hk⟩=>⟨v,he,hK _ _ hk⟩
  case round l f tmps assign body=>exact h.mono fun e w' ⟨v,he,hk⟩=>⟨v,he,hK _ _ hk⟩
 |halt x w=>simp only [RI]at h
theorem mG{P:Program}(hK: ∀a w,K a w→K' a w)(h:G5 P o a w K):G5 P o a w K' :=⟨h.1,Nb hK h.2⟩
variable{Q:Exit→Act→World→Prop}{β:Type}{res:β→Ty}
theorem jO{P:Program}{r:Option Nat}(hK: ∀a w,K a w→K' a w)(h:G5 P o a w K):o.wpIn (fw r) 0 P a w K' Q:=by
 obtain⟨hd,h⟩:=h
 refine⟨fun _ _=>trivial,?_⟩
 rw [Oper.semAt_eq _ _ _ hd]
 generalize (execOp a.eval o).run P w=res at h
 cases res with
 |ok n w=>
  cases n<;>simp only [RI]at h<;>simp only [Oper.uponIn]
  case value=>exact hK _ _ h
  case skip=>exact hK _ _ h
  case enter f args=>exact⟨Hv,jx.2 (h.mono fun e w' ⟨v,he,hk⟩=>by subst he;exact hK _ _ hk)⟩
  case round l f tmps assign body=>exact⟨Hv,(IJ h).mono fun e w' ⟨v,he,hk⟩=>by subst he;exact hK _ _ hk⟩
 |halt x w=>simp only [RI]at h

def bW(E:En)(O:List OE)(G:kW)(o:Oper)(t:Ty):Prop:=
 ∀a w S,ii w S→cI E.base E.B w S O→cR E.N S a G→
  G5 E.P o a w (fun a' w' => ∃v S',a' =a.put o.dst v∧fN nZ w S w' S' ∧ii w' S' ∧t.p S' v)
structure St(E:En)(O:List OE)(G:kW)(a:Act)(w:World)(S:SH):Prop where
 ext:fN E.B E.w0 E.S0 w S
 sat:ii w S
 own:cI E.base E.B w S O
 facts:cR E.N S a G
def RG(E:En)(ops:Array Oper)(Q:Exit→Act→World→Prop)(l:List Oper)(O:List OE)(G:kW):Prop:= ∀a w S,St E O G a w S→wpListIn (fw E.r) 0 E.P ops Q l a w
def CG(E:En)(Q:Exit→Act→World→Prop)(c:Code)(O:List OE)(G:kW):Prop:= ∀a w S,St E O G a w S→c.wpIn (fw E.r) 0 E.P Q a w
def AT(E:En)(Q:Exit→Act→World→Prop)(e:Exit)(O:List OE)(G:kW):Prop:= ∀a w S,St E O G a w S→Q e a w

variable{after:Array Edge}{fn:Func}{pos:String}{ts:List Ty}{y:Operand}
section
variable{E:En}{G' :kW}{l:List Oper}
theorem St.step(h:St E O G a w S)(k:fN nZ w S w' S')(hs:ii w' S')(hd:Nat.blt d E.N.n=true)(hv:t.p S' v):
  St E O ((d,t)::G) (a.put (some d) v) w' S' :=
 ⟨h.ext.step0 k,hs,h.own.ext0 k,(h.facts.mono k.keep).put hd hv⟩
theorem St.sub(h:St E O G a w S)(k:Iw G' G):St E O G' a w S:=⟨h.ext,h.sat,h.own,h.facts.sub (DI k)⟩
theorem RG.of(hg:o.guard=none)(h: ∀a w S,St E O G a w S→G5 E.P o a w (fun a' w' =>wpListIn (fw E.r) 0 E.P ops Q l a' w')):RG E ops Q (o::l) O G:=fun a w S st=>
 wpListIn_plain hg fun _ hK=>jO hK (h a w S st)

theorem sM{op:Op}{ty:TypeId}(h:bW E O G ⟨some d,op,ty,pos,after,none⟩ t)(hd:Nat.blt d E.N.n=true)(k:RG E ops Q l O ((d,t)::G)):
  RG E ops Q (⟨some d,op,ty,pos,after,none⟩::l) O G:= .of rfl fun a w S st=>
 mG (fun a' w' ⟨_,_,ha,he,hs,hv⟩=>by subst ha;exact k _ _ _ (st.step he hs hd hv)) (h a w S st.sat st.own st.facts)
theorem aR(h:AT E Q .normal O G):RG E ops Q [] O G:=fun a w S st=>h a w S st
theorem am{id:Nat}{l:List Oper}(h:RG E l.toArray Q l O G):CG E Q (.region id l.toArray false) O G:=fun a w S st=>wpIn_region_lit (h a w S st)
theorem af{x y:Code}(h:CG E (Exit.then (y.wpIn (fw E.r) 0 E.P Q) Q) x O G):CG E Q (.seq x y) O G:=fun a w S st=>wpIn_seq (h a w S st)
theorem aw{y:Code}(h:CG E Q y O G):AT E (Exit.then (y.wpIn (fw E.r) 0 E.P Q) Q) .normal O G:=h
theorem bO(h:AT E Q .normal O G):CG E Q .skip O G:=fun a w S st=>wpIn_skip (h a w S st)
theorem bt{id:Nat}(h:AT E Q (.exit id) O G):CG E Q (.exit id) O G:=fun a w S st=>wpIn_exit (h a w S st)
theorem av(h:AT E Q .ret O G):CG E Q .ret O G:=fun a w S st=>wpIn_ret (h a w S st)
theorem CV(h:CG E Q c O G')(k:Iw G' G):CG E Q c O G:=fun a w S st=>h a w S (st.sub k)
theorem cE{e:Exit}(h:AT E Q e O G')(k:Iw G' G):AT E Q e O G:=fun a w S st=>h a w S (st.sub k)
theorem oS{c:Operand}{x y:Code}(hb:aK E.N G c (tD rB b))(hx:b=true→CG E Q x O G)(hy:b=false→CG E Q y O G):CG E Q (.cond c x y) O G:=fun a w S st=>by
 have hv:a.eval c= .bool b:=iP.1 (hb S a st.facts)
 refine wpIn_cond hv ?_
 cases b with
 |true=>exact hx rfl a w S st
 |false=>exact hy rfl a w S st
theorem aB{id:Nat}(h:CG E (Exit.inBlock id Q) c O G):CG E Q (.block id c) O G:=fun a w S st=>wpIn_block (h a w S st)
def zY(r:Option Nat)(P:Program)(c:Code)(Q:Exit→Act→World→Prop)(a:Act)(w:World):Prop:=
 ∀(b:Frame) (k:List Item) (cs:List Frame),b.roundOf=r→ ∃e a' w',Q e a' w' ∧ArrivesIn (Machine.fenced P (fw r)) P (lone (b.atR a (.code c:: .inLoop c::k)) cs w) b k cs e a' w'
theorem Kf{r:Option Nat}{n:Nat}:(fw r).room n:=fun _ hd=>by cases hd
theorem EO{r:Option Nat}{P:Program}{Q:Exit→Act→World→Prop}(h:zY r P c Q a w):(Code.loop c).wpIn (fw r) 0 P Q a w:=fun b k cs hro hb hr=>
 let⟨e,a',w',hq,harr⟩:=h b k cs hro
 ⟨e,a',w',hq,.of_steps (.one (fenced_calm hb hr rfl) stepR_loop) harr⟩
theorem Dh{r:Option Nat}{P:Program}{Q:Exit→Act→World→Prop}(h:c.wpIn (fw r) 0 P (Exit.then (zY r P c Q) Q) a w):zY r P c Q a w:=by
 intro b k cs hro
 obtain⟨e,a₁,w₁,hq,harr⟩:=h b (.inLoop c::k) cs hro trivial Kf
 cases e with
 |normal=>
  obtain⟨e₂,a₂,w₂,hq₂,harr₂⟩:=hq b k cs hro
  exact⟨e₂,a₂,w₂,hq₂,.of_steps (StepsIn.trans harr (.one (fenced_calm (n:=0) (F:=fw r) trivial Kf rfl) stepR_inLoop)) harr₂⟩
 |exit id=>exact⟨_,a₁,w₁,hq,.pass (x:= .inLoop c) rfl (fun _ _=> .inl (by simp)) harr⟩
 |goto l=>exact⟨_,a₁,w₁,hq,.pass (x:= .inLoop c) rfl (fun _ _=> .inl (by simp)) harr⟩
 |ret=>exact⟨_,a₁,w₁,hq,.pass (x:= .inLoop c) rfl (fun _ _=> .inl (by simp)) harr⟩
 |panic ch=>exact⟨_,a₁,w₁,hq,.pass (x:= .inLoop c) rfl (fun _ _=> .inl (by simp)) harr⟩
 |outgrown=>exact⟨_,a₁,w₁,hq,.pass (x:= .inLoop c) rfl (fun _ _=> .inl (by simp)) harr⟩
def LG(E:En)(Q:Exit→Act→World→Prop)(c:Code)(O:List OE)(G:kW):Prop:= ∀a w S,St E O G a w S→zY E.r E.P c Q a w
theorem bU(h:LG E Q c O G):CG E Q (.loop c) O G:=fun a w S st=>EO (h a w S st)
theorem aC(h:CG E (Exit.then (zY E.r E.P c Q) Q) c O G):LG E Q c O G:=fun a w S st=>Dh (h a w S st)
theorem aW(h:LG E Q c O G')(k:Iw G' G):LG E Q c O G:=fun a w S st=>h a w S (st.sub k)
theorem bj(h:LG E Q c O G):AT E (Exit.then (zY E.r E.P c Q) Q) .normal O G:=h
theorem ac{id:Nat}(h:AT E Q (.exit id) O G):AT E (Exit.then K Q) (.exit id) O G:=h
theorem aa(h:AT E Q .ret O G):AT E (Exit.then K Q) .ret O G:=h
theorem aF{id:Nat}(h:AT E Q .ret O G):AT E (Exit.inBlock id Q) .ret O G:=h
theorem an{id:Nat}(h:AT E Q .normal O G):AT E (Exit.inBlock id Q) .normal O G:=h
theorem aN{id:Nat}(h:AT E Q .normal O G):AT E (Exit.inBlock id Q) (.exit id) O G:=fun a w S st=>by
 simp only [Exit.inBlock,iE];exact h a w S st
theorem cz{id id' :Nat}(hne:Nat.beq id' id=false)(h:AT E Q (.exit id') O G):AT E (Exit.inBlock id Q) (.exit id') O G:=fun a w S st=>by
 have:id' ≠id:=fun e=>by subst e;simp at hne
 simp only [Exit.inBlock,this,iM];exact h a w S st

def u9(S:SH):List Ty→List Value→Prop
 |[],[]=>True
 |t::ts,v::vs=>t.p S v∧u9 S ts vs
 |_,_=>False
theorem u9.mono(h:SH.le S S'): ∀{ts:List Ty} {vs:List Value},u9 S ts vs→u9 S' ts vs
 |[],[],_=>trivial
 |t::_,_::_,⟨h1,h2⟩=>⟨t.mono h h1,u9.mono h h2⟩
theorem u9.length: ∀{ts:List Ty} {vs:List Value},u9 S ts vs→vs.length=ts.length
 |[],[],_=>rfl
 |_::_,_::_,⟨_,h2⟩=>by simp [u9.length h2]
def bA(P:Program)(f:FuncId)(ts:List Ty)(t:Ty):Prop:=
 ∀w S vs,ii w S→u9 S ts vs→Calls P f vs.toArray w fun e w' => ∃v S',e= .returned v∧fN nZ w S w' S' ∧ii w' S' ∧t.p S' v
def HG(E:En)(t:Ty):Ending→World→Prop:=fun e w' => ∃v S',e= .returned v∧fN E.B E.w0 E.S0 w' S' ∧ii w' S' ∧t.p S' v
def sy(k:Nat):List Ty→kW
 |[]=>[]
 |t::ts=>(k,t)::sy (k+1) ts
theorem Cs: ∀(ts:List Ty) (k j:Nat) (t:Ty),look (sy k ts) j=some t→ ∃i,j=k+i∧ts[i]? =some t
 |[],_,_,_,h=>by simp [sy,look]at h
 |u::ts,k,j,t,h=>by
  unfold sy look at h
  by_cases hb:Nat.beq k j=true
  ·rw [hb]at h
   exact⟨0,by rw [mQ hb];rfl,by simpa using h⟩
  ·rw [yc]at hb
   rw [hb]at h
   obtain⟨i,h1,h2⟩:=Cs ts (k+1) j t h
   exact⟨i+1,by omega,by simpa using h2⟩
theorem u9.at_: ∀{ts:List Ty} {vs:List Value} (_:u9 S ts vs) (i:Nat) (t:Ty),ts[i]? =some t→ ∃v,vs[i]? =some v∧t.p S v
 |_::_,v::_,⟨h1,_⟩,0,t,h=>⟨v,rfl,by simp at h;rw [←h];exact h1⟩
 |_::ts,_::vs,⟨_,h2⟩,i+1,t,h=>by simpa using u9.at_ h2 i t (by simpa using h)
theorem mu{vs:List Value}(h:u9 S ts vs)(n:Nat)(hn:ts.length≤n):
  cR ⟨n,[]⟩ S {tmps:=vs.toArray++Array.replicate (n-vs.toArray.size) undef,defers:=[]} (sy 0 ts):=by
 have hl:=h.length
 refine⟨by simp;omega,rfl,fun j t hj=>?_⟩
 obtain⟨i,e,hi⟩:=Cs ts 0 j t hj
 have e' :j=i:=by omega
 subst e'
 obtain⟨v,hv,ht⟩:=h.at_ j t hi
 have hlt:j<vs.length:=(oT.1 hv).1
 have:(vs.toArray++Array.replicate (n-vs.toArray.size) undef).getD j undef=v:=by
  rw [EM,Array.getElem?_append_left (by simpa using hlt)]
  simp [hv]
 rw [this];exact ht
theorem FV{P:Program}(hf:P.funcs[f]? =some fn)(hb:fn.body=some c)(hn:ts.length≤fn.ntmps)(h: ∀w0 S0,CG ⟨P,⟨fn.ntmps,[]⟩,nZ,w0,S0,none⟩ (bodyPost P fn (HG ⟨P,⟨fn.ntmps,[]⟩,nZ,w0,S0,none⟩ t)) c [] (sy 0 ts)):bA P f ts t:=by
 intro w S vs hs hv
 exact jx.1 (BI (F:=fw none) (n:=0) hf hb trivial (h w S _ w S ⟨fi _ _ _,hs,trivial,mu hv _ hn⟩))
theorem lA(P:Program)(fn:Func)(k:Nat)(h:fn.results= #[.tmp k])(tmps:Array Value)(w:World):(results fn tmps).run P w= .ok (tmps.getD k undef) w:=by
 simp [results,h]
theorem ba{P:Program}{N:Nat}{B:Nat→Prop}{w0:World}{S0:SH}(hr:fn.results= #[.tmp k])(hk:look G k=some t):
  AT ⟨P,⟨N,[]⟩,B,w0,S0,none⟩ (bodyPost P fn (HG ⟨P,⟨N,[]⟩,B,w0,S0,none⟩ t)) .ret O G:=fun _ _ S st=>
 ⟨st.facts.defers,_,lA P fn k hr _ _,_,S,rfl,st.ext,st.sat,st.facts.at_ k t hk⟩
def tT(ts:List Ty):Ty where
 p:=fun S v=> ∃vs,v= .tuple vs.toArray∧u9 S ts vs
 mono:=fun h k=>by obtain⟨vs,e,k⟩:=k;exact⟨vs,e,u9.mono h k⟩
theorem A9(P:Program)(fn:Func)(j k:Nat)(h:fn.results= #[.tmp j,.tmp k])(tmps:Array Value)(w:World):(results fn tmps).run P w= .ok (.tuple #[tmps.getD j undef,tmps.getD k undef]) w:=by
 simp [results,h]
theorem df{P:Program}{N:Nat}{B:Nat→Prop}{w0:World}{S0:SH}{u:Ty}(hr:fn.results= #[.tmp j,.tmp k])(hj:look G j=some t)(hk:look G k=some u):
  AT ⟨P,⟨N,[]⟩,B,w0,S0,none⟩ (bodyPost P fn (HG ⟨P,⟨N,[]⟩,B,w0,S0,none⟩ (tT [t,u]))) .ret O G:=fun _ _ S st=>
 ⟨st.facts.defers,_,A9 P fn j k hr _ _,_,S,rfl,st.ext,st.sat,[_,_],rfl,st.facts.at_ j t hj,st.facts.at_ k u hk,trivial⟩
theorem yz(P:Program)(fn:Func)(i j k:Nat)(h:fn.results= #[.tmp i,.tmp j,.tmp k])(tmps:Array Value)(w:World):(results fn tmps).run P w= .ok (.tuple #[tmps.getD i undef,tmps.getD j undef,tmps.getD k undef]) w:=by
 simp [results,h]
theorem BD{P:Program}{N:Nat}{B:Nat→Prop}{w0:World}{S0:SH}{s u:Ty}(hr:fn.results= #[.tmp i,.tmp j,.tmp k])(hi:look G i=some s)(hj:look G j=some t)(hk:look G k=some u):
  AT ⟨P,⟨N,[]⟩,B,w0,S0,none⟩ (bodyPost P fn (HG ⟨P,⟨N,[]⟩,B,w0,S0,none⟩ (tT [s,t,u]))) .ret O G:=fun _ _ S st=>
 ⟨st.facts.defers,_,yz P fn i j k hr _ _,_,S,rfl,st.ext,st.sat,[_,_,_],rfl,st.facts.at_ i s hi,st.facts.at_ j t hj,st.facts.at_ k u hk,trivial⟩
theorem tE(P:Program)(fn:Func)(h:fn.results= #[])(tmps:Array Value)(w:World):(results fn tmps).run P w= .ok (.tuple #[]) w:=by
 simp [results,h]
end

variable{dst:Option Tmp}{xt yt:TypeId}
section
variable{E:En}{ty:TypeId}
theorem bW.of_run(h: ∀a w S,ii w S→cI E.base E.B w S O→cR E.N S a G→
  ∃v w' S',(execOp a.eval o).run E.P w= .ok (.value v) w' ∧fN nZ w S w' S' ∧ii w' S' ∧t.p S' v)(hd: ∀c,o.op≠ .defer c:=by intro c h;cases h):bW E O G o t:=fun a w S hs ho hf=>by
 obtain⟨v,w',S',hr,he,hs',hv⟩:=h a w S hs ho hf
 refine⟨hd,?_⟩
 rw [hr]
 exact⟨v,S',rfl,he,hs',hv⟩
theorem bW.of_pure(h: ∀a w S,ii w S→cI E.base E.B w S O→cR E.N S a G→ ∃v,(execOp a.eval o).run E.P w= .ok (.value v) w∧t.p S v)(hd: ∀c,o.op≠ .defer c:=by intro c h;cases h):bW E O G o t:=
 .of_run (fun a w S hs ho hf=>let⟨v,hr,hv⟩:=h a w S hs ho hf;⟨v,w,S,hr,fi _ _ _,hs,hv⟩) hd

theorem bJ(hx:aK E.N G x t):bW E O G ⟨dst,.move x,ty,pos,after,g⟩ t:=
 .of_pure fun a _ S _ _ hf=>⟨a.eval x,rfl,hx S a hf⟩
theorem aS(hx:aK E.N G x t):bW E O G ⟨dst,.assign x,ty,pos,after,g⟩ t:=
 .of_pure fun a _ S _ _ hf=>⟨a.eval x,rfl,hx S a hf⟩
theorem wy{c:Operand}(hc:aK E.N G c (tD rB b))(hx:b=true→aK E.N G x t)(hy:b=false→aK E.N G y t):bW E O G ⟨dst,.pick c x y,ty,pos,after,g⟩ t:=
 .of_pure fun a _ S _ _ hf=>by
  have h1:a.eval c= .bool b:=iP.1 (hc S a hf)
  refine⟨if b then a.eval x else a.eval y,by simp [execOp,h1,asBool],?_⟩
  cases b with
  |true=>exact hx rfl S a hf
  |false=>exact hy rfl S a hf

section
variable{k:IntKind}{m n:Int}
theorem HC{P:Program}{op:BinOp}{xt:TypeId}{x y:Operand}{k k' :IntKind}{m n:Int}:(eqGuard op xt x y (.int k m) (.int k' n)).run P w= .ok () w:=by
 unfold eqGuard
 cases op<;>rfl
theorem vM{op:BinOp}(hx:aK E.N G x (tD (rI k) m))(hy:aK E.N G y (tD (rI k) n))(hv: ∀P w,(binOp op xt (.int k m) (.int k n)).run P w= .ok v w)(ht: ∀S,t.p S v):
  bW E O G ⟨dst,.binOp op xt x y yt,ty,pos,after,g⟩ t:=
 .of_pure fun a w S _ _ hf=>by
  have h1:a.eval x= .int k m:=dO.1 (hx S a hf)
  have h2:a.eval y= .int k n:=dO.1 (hy S a hf)
  refine⟨v,?_,ht S⟩
  simp [execOp,h1,h2,HC,hv]
theorem pt(hx:aK E.N G x (tD (rI k) m))(hy:aK E.N G y (tD (rI k) n)):bW E O G ⟨dst,.binOp .add xt x y yt,ty,pos,after,g⟩ (tD (rI k) (k.wrap (m+n))):=
 vM hx hy (fun _ _=>by simp [binOp,Op.intArith]) (fun _=>dO.2 rfl)
theorem ib(hx:aK E.N G x (tD (rI k) m))(hy:aK E.N G y (tD (rI k) n)):bW E O G ⟨dst,.binOp .sub xt x y yt,ty,pos,after,g⟩ (tD (rI k) (k.wrap (m-n))):=
 vM hx hy (fun _ _=>by simp [binOp,Op.intArith]) (fun _=>dO.2 rfl)
theorem iA(hx:aK E.N G x (tD (rI k) m))(hy:aK E.N G y (tD (rI k) n)):bW E O G ⟨dst,.binOp .lss xt x y yt,ty,pos,after,g⟩ (tD rB (decide (m<n))):=
 vM hx hy (fun _ _=>by simp [binOp,Op.intCmp]) (fun _=>iP.2 rfl)
theorem lT(hx:aK E.N G x (tD (rI k) m))(hy:aK E.N G y (tD (rI k) n)):bW E O G ⟨dst,.binOp .leq xt x y yt,ty,pos,after,g⟩ (tD rB (decide (m≤n))):=
 vM hx hy (fun _ _=>by simp [binOp,Op.intCmp]) (fun _=>iP.2 rfl)
theorem gU(hx:aK E.N G x (tD (rI k) m))(hy:aK E.N G y (tD (rI k) n)):bW E O G ⟨dst,.binOp .gtr xt x y yt,ty,pos,after,g⟩ (tD rB (decide (n<m))):=
 vM hx hy (fun _ _=>by simp [binOp,Op.intCmp]) (fun _=>iP.2 rfl)
theorem fF(hx:aK E.N G x (tD (rI k) m))(hy:aK E.N G y (tD (rI k) n)):bW E O G ⟨dst,.binOp .geq xt x y yt,ty,pos,after,g⟩ (tD rB (decide (n≤m))):=
 vM hx hy (fun _ _=>by simp [binOp,Op.intCmp]) (fun _=>iP.2 rfl)
theorem cO(hx:aK E.N G x (tD (rI k) m))(hy:aK E.N G y (tD (rI k) n)):bW E O G ⟨dst,.binOp .eql xt x y yt,ty,pos,after,g⟩ (tD rB (m==n)):=
 vM hx hy (fun _ _=>by simp [binOp,Op.intCmp]) (fun _=>iP.2 rfl)
theorem fE(hx:aK E.N G x (tD (rI k) m))(hy:aK E.N G y (tD (rI k) n)):bW E O G ⟨dst,.binOp .neq xt x y yt,ty,pos,after,g⟩ (tD rB (m !=n)):=
 vM hx hy (fun _ _=>by simp [binOp,Op.intCmp]) (fun _=>iP.2 rfl)
theorem RK(hx:aK E.N G x (tD (rI k) m)):bW E O G ⟨dst,.unOp .neg xt x,ty,pos,after,g⟩ (tD (rI k) (k.wrap (0-m))):=
 .of_pure fun a w S _ _ hf=>by
  have h1:a.eval x= .int k m:=dO.1 (hx S a hf)
  exact⟨.int k (k.wrap (0-m)),by simp [execOp,h1,Op.unary,Op.intArith],dO.2 rfl⟩
theorem gj(hx:aK E.N G x (tD rB b)):bW E O G ⟨dst,.unOp .not xt x,ty,pos,after,g⟩ (tD rB (!b)):=
 .of_pure fun a w S _ _ hf=>by
  have h1:a.eval x= .bool b:=iP.1 (hx S a hf)
  exact⟨.bool (!b),by simp [execOp,h1,Op.unary],iP.2 rfl⟩
theorem Pd{st dt:TypeId}{k' :IntKind}{d:TypeDesc}(hs:E.P.underlying st=some d)(hd:E.P.underlying dt=some (.int k'))(hx:aK E.N G x (tD (rI k) m)):
  bW E O G ⟨dst,.convert st dt x,ty,pos,after,g⟩ (tD (rI k') (k'.wrap m)):=
 .of_pure fun a w S _ _ hf=>by
  have h1:a.eval x= .int k m:=dO.1 (hx S a hf)
  refine⟨.int k' (k'.wrap m),?_,dO.2 rfl⟩
  simp only [execOp,h1,convert,o4,iN hs,iN hd,qt]
  cases d<;>simp [Conv.intToInt]
end

theorem E5{P:Program}{t:TypeId}{x y:Value}(hb: ∀d,(Op.equalIn (d+1) t x y).run P w= .ok b w):(Op.equal t x y).run P w= .ok b w:=hb 9999
section
theorem Nc{op:BinOp}{s u:gV}(hx:aK E.N G x (tD rS s))(hy:aK E.N G y (tD rS u))(hv: ∀P w,(Op.stringOp op ⟨s.toArray⟩ ⟨u.toArray⟩).run P w= .ok (.bool b) w)(hg: ∀P w,(eqGuard op xt x y (.string ⟨s.toArray⟩) (.string ⟨u.toArray⟩)).run P w= .ok () w)(hb: ∀P w,(binOp op xt (.string ⟨s.toArray⟩) (.string ⟨u.toArray⟩)).run P w=(Op.stringOp op ⟨s.toArray⟩ ⟨u.toArray⟩).run P w):
  bW E O G ⟨dst,.binOp op xt x y yt,ty,pos,after,g⟩ (tD rB b):=
 .of_pure fun a w S _ _ hf=>by
  have h1:a.eval x= .string ⟨s.toArray⟩:=vl.1 (hx S a hf)
  have h2:a.eval y= .string ⟨u.toArray⟩:=vl.1 (hy S a hf)
  refine⟨.bool b,?_,iP.2 rfl⟩
  simp [execOp,h1,h2,hg,hb,hv]
theorem Bu{s u:gV}(hx:aK E.N G x (tD rS s))(hy:aK E.N G y (tD rS u)):bW E O G ⟨dst,.binOp .eql xt x y yt,ty,pos,after,g⟩ (tD rB (s==u)):=
 Nc hx hy (fun _ _=>by simp [Op.stringOp]) (fun _ _=>rfl) (fun _ _=>rfl)
theorem Pa{s u:gV}(hx:aK E.N G x (tD rS s))(hy:aK E.N G y (tD rS u)):bW E O G ⟨dst,.binOp .neq xt x y yt,ty,pos,after,g⟩ (tD rB (!(s==u))):=
 Nc hx hy (fun _ _=>by simp [Op.stringOp]) (fun _ _=>rfl) (fun _ _=>rfl)
end
end

def Nx:TypeDesc→Bool
 | .struct _| .array _ _=>true
 |_=>false
structure TI(P:Program)(T:TypeId)(sz bytes:Nat)(agg:Bool)(z:List Value):Prop where
 info:(P.info? T).map (fun i=>(i.zero.map (·.cells.toList),i.size,i.bytes))=some (some z,sz,bytes)
 ag:(P.underlying T).map Nx=some agg
variable{T:TypeId}{z:List Value}
section
variable{P:Program}{sz:Nat}{agg:Bool}
theorem TI.get(h:TI P T sz bytes agg z): ∃i zv,P.info? T=some i∧i.size=sz∧i.bytes=bytes∧i.zero=some zv∧zv.cells=z.toArray:=by
 have:=h.info
 cases hi:P.info? T with
 |none=>rw [hi]at this;simp at this
 |some i=>
  rw [hi]at this
  simp only [Dt,F9,Prod.mk.injEq,yf]at this
  obtain⟨⟨zv,h1,h2⟩,h3,h4⟩:=this
  exact⟨i,zv,rfl,h3,h4,h1,by rw [←h2]⟩
theorem TI.sizeOf(h:TI P T sz bytes agg z)(w:World):(Go.sizeOf T).run P w= .ok sz w:=by
 obtain⟨i,zv,h1,h2,_⟩:=h.get
 simp [Go.sizeOf,typeInfo,h1,h2]
theorem TI.isAgg(h:TI P T sz bytes agg z)(w:World):(Go.isAgg T).run P w= .ok agg w:=by
 have:=h.ag
 cases hi:P.underlying T with
 |none=>rw [hi]at this;simp at this
 |some d=>
  rw [hi]at this
  simp only [Dt,F9]at this
  simp only [Go.isAgg,o4,iN hi,qt]
  rw [←this]
  cases d<;>simp [Nx]
theorem TI.zero(h:TI P T sz bytes agg z)(w:World): ∃zv,(zeroValue T).run P w= .ok zv w∧zv.cells=z.toArray:=by
 obtain⟨i,zv,h1,_,_,h4,h5⟩:=h.get
 exact⟨zv,by simp [zeroValue,typeInfo,h1,h4],h5⟩
end

theorem ig(b off i:Nat):(⟨b,off,none⟩:Addr).add i=⟨b,off+i,none⟩:=by
 unfold Addr.add
 split
 ·simp_all
 ·rfl
theorem zi{b:Nat}{c:Array Value}(h:w.heap[b]? =some (.cells c T fr))(i:Nat):w.cell? ⟨b,i,none⟩=c[i]? :=by
 simp [World.cell?,h]
theorem zO{P:Program}{b n:Nat}{c:Array Value}(h:w.heap[b]? =some (.cells c T fr))(hcs:(c.toList.drop off).take n=cs)(hl:cs.length=n):
  (loadCells ⟨b,off,none⟩ n).run P w= .ok cs.toArray w:=by
 rw [←hl]
 refine run_loadCells_list w ⟨b,off,none⟩ cs fun j v hv=>?_
 rw [ig,zi h]
 have hj:j<cs.length:=(oT.1 hv).1
 rw [←hcs,zE (by omega),ve]at hv
 simpa using hv
theorem ji{P:Program}{b:Nat}{c:Array Value}{U:TypeId}{sz:Nat}{agg:Bool}(ti:TI P U sz bytes agg z)(h:w.heap[b]? =some (.cells c T fr)){r:Rp α}(hsz:r.sz=sz)(hag:r.agg=agg){x:α}(hx:r.rc S ((c.toList.drop off).take r.sz) x):
  (loadVar U ⟨b,off,none⟩).run P w= .ok (r.val ((c.toList.drop off).take r.sz)) w:=by
 have hl:=r.len hx
 subst hsz
 subst hag
 simp only [loadVar,o4,ti.isAgg,qt]
 cases ha:r.agg with
 |true=>simp [ti.sizeOf,zO h rfl hl,Rp.val,ha]
 |false=>
  have h1:=r.sc ha
  have hcell:w.cell? ⟨b,off,none⟩=some (((c.toList.drop off).take r.sz).headD undef):=by
   rw [zi h]
   rw [h1]at hl ⊢
   cases hd:c.toList.drop off with
   |nil=>rw [hd]at hl;simp at hl
   |cons v rest=>
    have:(c.toList.drop off)[0]? =some v:=by rw [hd];rfl
    rw [ve]at this
    simpa using this
  simp [hcell,Rp.val,ha]

variable{ats:Array TypeId}
section
variable{E:En}{ty:TypeId}
theorem bD{r:Rp α}{x:α}{U:TypeId}{p:Operand}{sz:Nat}{agg:Bool}(ti:TI E.P U sz bytes agg z)(hsz:r.sz=sz)(hag:r.agg=agg)(hp:aK E.N G p (bw r x)):
  bW E O G ⟨dst,.load U p,ty,pos,after,g⟩ (tD r x):=
 .of_pure fun a w S hs _ hf=>by
  obtain⟨b,off,c,T,fr,h1,h2,h3⟩:=hp S a hf
  obtain⟨c',h4,h5⟩:=hs.part h2 (r.len h3)
  rw [←h5]at h3
  refine⟨r.val ((c'.toList.drop off).take r.sz),?_,_,rfl,h3⟩
  simp [execOp,h1,Instr.loadAt,Instr.sureAddr,ji ti h4 hsz hag h3]

theorem Kz(s:gV):(ByteArray.mk s.toArray).size=s.length:=by simp [ByteArray.size]
theorem cA{r:Rp α}{t:TypeId}(ht:E.P.underlying t=some (.slice e))(hx:aK E.N G x (tD (eU r) xs)):
  bW E O G ⟨dst,.call ⟨.builtin .len,#[x],#[t]⟩,ty,pos,after,g⟩ (tD (rI .i64) (xs.length:Int)):=
 .of_pure fun a w S _ _ hf=>by
  obtain⟨ad,cap,h1,_⟩:=mD.1 (hx S a hf)
  refine⟨.int .i64 xs.length,?_,dO.2 rfl⟩
  simp [execOp,resolve,invoke,builtin,Builtin.len_,iN ht,h1,goInt]
theorem yM{s:gV}{t:TypeId}(ht:E.P.underlying t=some .string)(hx:aK E.N G x (tD rS s)):
  bW E O G ⟨dst,.call ⟨.builtin .len,#[x],#[t]⟩,ty,pos,after,g⟩ (tD (rI .i64) (s.length:Int)):=
 .of_pure fun a w S _ _ hf=>by
  have h1:a.eval x= .string ⟨s.toArray⟩:=vl.1 (hx S a hf)
  refine⟨.int .i64 s.length,?_,dO.2 rfl⟩
  simp [execOp,resolve,invoke,builtin,Builtin.len_,iN ht,h1,goInt,Kz]

def cK{α:Type}(xs:List α)(i:Int):Option α:=if 0≤i then xs[i.toNat]? else none
theorem cg(xs:List α)(i:Nat):cK xs (i:Int)=xs[i]? :=by simp [cK]
theorem La{r:Rp α}{a:Option Addr}(h:Gw r S a xs){x:α}(hx:xs[i]? =some x):
  ∃b off c T fr,a=some ⟨b,off,none⟩∧S b=some (.cells c T fr)∧r.rc S ((c.toList.drop (off+i*r.sz)).take r.sz) x:=by
 rcases h with rfl|⟨b,off,c,T,fr,e1,e2,e3⟩
 ·simp at hx
 ·refine⟨b,off,c,T,fr,e1,e2,?_⟩
  have h:=Bs e3 hx
  have hi:i<xs.length:=(oT.1 hx).1
  rw [BF,zy,sR]at h
  have:min r.sz (xs.length*r.sz-i*r.sz)=r.sz:=by
   rw [←Nat.sub_mul]
   have:1*r.sz≤(xs.length-i)*r.sz:=A5 _ (by omega)
   omega
  rw [this]at h
  exact h
theorem aO{r:Rp α}{y:α}{ix:Operand}{t:TypeId}{k:IntKind}{i:Int}{sz:Nat}{agg:Bool}(ht:E.P.underlying t=some (.slice e))(ti:TI E.P e sz bytes agg z)(hsz:r.sz=sz)(hx:aK E.N G x (tD (eU r) xs))(hi:aK E.N G ix (tD (rI k) i))(hy:cK xs i=some y):
  bW E O G ⟨dst,.indexAddr t x ix,ty,pos,after,g⟩ (bw r y):=
 .of_pure fun a w S _ _ hf=>by
  obtain⟨ad,cap,h1,_,_,h2⟩:=mD.1 (hx S a hf)
  have h3:a.eval ix= .int k i:=dO.1 (hi S a hf)
  have h0:0≤i:=by unfold cK at hy;split at hy;assumption;cases hy
  have hy' :xs[i.toNat]? =some y:=by unfold cK at hy;rw [bm h0]at hy;exact hy
  have hlt:i.toNat<xs.length:=(oT.1 hy').1
  obtain⟨b,off,c,T,fr,e1,e2,e3⟩:=La h2 hy'
  subst e1
  refine⟨.pointer (some ⟨b,off+i.toNat*r.sz,none⟩),?_,b,_,c,T,fr,rfl,e2,e3⟩
  have hc:0≤i∧i<(xs.length:Int):=⟨h0,by omega⟩
  simp [execOp,h1,h3,Instr.indexAt,asIntOf,iN ht,hc,ti.sizeOf,ig,hsz]

def lV{α β:Type}(r:Rp α)(off:Nat)(q:Rp β)(get:α→β):Prop:= ∀S cs x,r.rc S cs x→q.rc S ((cs.drop off).take q.sz) (get x)
def ci(P:Program)(T:TypeId)(i:Nat):Option (Nat×Nat):=
 match P.underlying T with
 |some (.struct fs)=>(fs[i]?).bind fun f=>(P.info? f.type).map fun q=>(f.offset,q.size)
 |_=>none
theorem zP{P:Program}{sz:Nat}(h:ci P T i=some (off,sz)): ∃fs f,P.underlying T=some (.struct fs)∧fs[i]? =some f∧f.offset=off∧ ∀w,(sizeOf f.type).run P w= .ok sz w:=by
 unfold ci at h
 split at h
 ·rename_i fs hu
  cases hf:fs[i]? with
  |none=>rw [hf]at h;simp at h
  |some f=>
   rw [hf]at h
   cases hq:P.info? f.type with
   |none=>simp [hq]at h
   |some q=>
    simp [hq]at h
    exact⟨fs,f,hu,hf,h.1,fun w=>by simp [sizeOf,typeInfo,hq,h.2]⟩
 ·cases h
theorem lc{r:Rp α}{q:Rp β}{get:α→β}{x:α}{sz:Nat}{p:Operand}(hf:ci E.P T i=some (off,sz))(h0:Nat.beq sz 0=false)(hq:lV r off q get)(hoff:Nat.ble (off+q.sz) r.sz=true)(hp:aK E.N G p (bw r x)):bW E O G ⟨dst,.fieldAddr T p i,ty,pos,after,g⟩ (bw q (get x)):=
 .of_pure fun a w S _ _ hF=>by
  obtain⟨b,o,c,U,fr,h1,h2,h3⟩:=hp S a hF
  obtain⟨fs,f,e1,e2,e3,e4⟩:=zP hf
  have h0' :sz≠0:=fun e=>by subst e;simp at h0
  have hoff' :off+q.sz≤r.sz:=nW hoff
  refine⟨.pointer (some ⟨b,o+off,none⟩),?_,b,_,c,U,fr,rfl,h2,?_⟩
  ·simp [execOp,h1,Instr.fieldAt,iN e1,e2,Instr.sureAddr,fieldPlace,e4,h0',e3,ig]
  ·have:=hq S _ x h3
   rw [BF,zy,sR,zz (by omega)]at this
   exact this
def ak(P:Program)(f:FuncId):Bool:=
 match P.funcs[f]? with
 |some fn=> !(fn.name== "runtime.NumGoroutine")&&fn.body.isSome
 |none=>false
theorem fq{P:Program}(h:ak P f=true)(args:Array Value)(w:World):(callFunc f args).run P w= .ok (.enter f args) w:=by
 unfold ak at h
 cases hf:P.funcs[f]? with
 |none=>rw [hf]at h;cases h
 |some fn=>
  rw [hf]at h
  simp only [jD,zB]at h
  have h1:fn.name≠ "runtime.NumGoroutine" :=by simpa using h.1
  have h2:fn.body≠none:=fun e=>by rw [e]at h;simp at h
  simp [callFunc,hf,h1,h2]
def iW(N:Fr)(G:kW):List Operand→List Ty→Prop
 |[],[]=>True
 |x::xs,t::ts=>aK N G x t∧iW N G xs ts
 |_,_=>False
theorem iW.tys{N:Fr}(hF:cR N S a G): ∀{xs:List Operand} {ts:List Ty},iW N G xs ts→u9 S ts (xs.map a.eval)
 |[],[],_=>trivial
 |_::_,_::_,⟨h1,h2⟩=>⟨h1 S a hF,iW.tys hF h2⟩
theorem aL{xs:List Operand}(hc:ak E.P f=true)(hs:bA E.P f ts t)(hx:iW E.N G xs ts):
  bW E O G ⟨dst,.call ⟨.value (.func f),xs.toArray,ats⟩,ty,pos,after,g⟩ t:=fun a w S hS _ hF=>by
 have hr:(execOp a.eval ⟨dst,.call ⟨.value (.func f),xs.toArray,ats⟩,ty,pos,after,g⟩).run E.P w= .ok (.enter f (xs.map a.eval).toArray) w:=by
  simp [execOp,resolve,Act.eval,Deferred.ofValue,invoke,fq hc]
 refine⟨fun c h=>(by cases h),?_⟩
 rw [hr]
 exact(hs w S _ hS (hx.tys hF)).mono fun e w' ⟨v,S',he,h1,h2,h3⟩=>⟨v,he,v,S',rfl,h1,h2,h3⟩
end

theorem lQ{o:Obj}(h:k<w.heap.size):(w.alloc o).heap[k]? =w.heap[k]? :=RowKit.Below.heap_alloc w o k h
def SH.set(S:SH)(b:Nat)(o:Obj):SH:=fun k=>if k=b then some o else S k
theorem nS(S:SH)(b:Nat)(o:Obj):S.set b o b=some o:=bm rfl
theorem pB(S:SH){b:Nat}(o:Obj)(h:k≠b):S.set b o k=S k:=bg h
theorem Ae{b:Nat}{o:Obj}(h: ∀q,S b=some q→Dc q o):SH.le S (S.set b o):=fun k q hq=>by
 by_cases hk:k=b
 ·subst hk;exact⟨o,nS _ _ _,h q hq⟩
 ·exact⟨q,by rw [pB _ _ hk];exact hq,vL q⟩
theorem ii.set(h:ii w S){b:Nat}{o:Obj}(h1:w.heap[b]? =some o')(h2:Dc o o')(h3: ∀q,S b=some q→Dc q o):ii w (S.set b o):=by
 refine⟨fun k q hq=>?_,fun p hp=>?_,fun w' hw' =>h.tb w' fun k q hq=>?_⟩
 ·by_cases hk:k=b
  ·subst hk
   rw [nS]at hq
   cases hq
   exact⟨o',h1,h2⟩
  ·rw [pB _ _ hk]at hq;exact h k q hq
 ·obtain⟨c,T,fr,g1,g2⟩:=h.gl p hp
  by_cases hk:p.1=b
  ·subst hk
   obtain⟨d,hd⟩:=h3 _ g1
   refine⟨_,T,fr,by rw [nS,hd],?_⟩
   rw [List.toList_toArray,xl ?_]
   ·exact g2
   ·have:=congrArg List.length g2
    rw [yi]at this
    omega
  ·exact⟨c,T,fr,by rw [pB _ _ hk];exact g1,g2⟩
 ·by_cases hk:k=b
  ·subst hk
   obtain⟨o1,g1,g2⟩:=hw' k o (nS _ _ _)
   exact⟨o1,g1,D6 (h3 q hq) g2⟩
  ·exact hw' k q (by rw [pB _ _ hk];exact hq)
theorem eJ(o:Obj)(hs:ii w S):fN nZ w S (w.alloc o) S∧ii (w.alloc o) S∧S w.heap.size=none:=by
 refine⟨⟨rfl,rfl,rfl,dN _,by simp,fun k hk _=>lQ hk,SH.le_refl _,fun _ _ _=>rfl⟩,hs.same fun b q hb=>lQ (hs.lt hb),?_⟩
 cases h:S w.heap.size with
 |none=>rfl
 |some q=>have:=hs.lt h;omega
theorem sQ(o:Obj)(hs:ii w S):fN nZ w S (w.alloc o) (S.set w.heap.size o)∧ii (w.alloc o) (S.set w.heap.size o):=by
 obtain⟨h1,h2,h3⟩:=eJ o hs
 refine⟨⟨rfl,rfl,rfl,dN _,by simp,fun k hk _=>lQ hk,Ae fun q hq=>(by rw [h3]at hq;cases hq),fun k hk _=>pB _ _ (by omega)⟩,h2.set (BE w o) (vL o) fun q hq=>by rw [h3]at hq;cases hq⟩
theorem wi(hs:ii w S):fN nZ w S w.drew S∧ii w.drew S:=⟨⟨rfl,rfl,rfl,Nat.le_succ _,dN _,fun _ _ _=>rfl,SH.le_refl _,fun _ _ _=>rfl⟩,hs.same fun _ _ _=>rfl⟩

def aD(l:Option Nat)(cap n:Nat):Value:=
 match l with
 |none=> .slice none 0 0
 |some b=> .slice (some ⟨b,0,none⟩) n cap
def xi(w:World)(T:TypeId)(sz:Nat)(l:Option Nat)(cap n:Nat)(cells:List Value):Prop:=
 match l with
 |none=>n=0∧cells=[]
 |some b=> ∃cur,w.heap[b]? =some (.cells cur T (0,0))∧n≤cap∧cap≤maxLen∧cur.size=cap*sz∧cur.toList.take (n*sz)=cells
def Bm{α:Type}(m:Bool)(r:Rp α)(T:TypeId)(l:Option Nat)(cap:Nat)(xs:List α)(w:World)(S:SH):Prop:=
 ∃cells,xi w T r.sz l cap xs.length cells∧tH r S cells xs∧ ∀b,l=some b→S b=if m then some (.cells cells.toArray T (0,0))else none
theorem xi.lt{sz b n:Nat}(h:xi w T sz (some b) cap n cells):b<w.heap.size:=by
 obtain⟨cur,h1,_⟩:=h
 exact(sU.1 h1).1
theorem xi.ext{sz n:Nat}(h:xi w T sz l cap n cells)(k: ∀b,l=some b→w'.heap[b]? =w.heap[b]?):xi w' T sz l cap n cells:=by
 cases l with
 |none=>exact h
 |some b=>
  obtain⟨cur,h1,h2⟩:=h
  exact⟨cur,by rw [k b rfl];exact h1,h2⟩
def kR{α:Type}(m:Bool)(r:Rp α)(T:TypeId)(l:Option Nat)(cap:Nat)(xs:List α):OE where
 fp:=fun k=>l=some k
 p:=Bm m r T l cap xs
 here:=by
  intro w S h k hk
  subst hk
  obtain⟨cells,h1,_⟩:=h
  exact h1.lt
 kept:=by
  intro C w w' S S' h k hC
  obtain⟨cells,h1,h2,h3⟩:=h
  refine⟨cells,h1.ext fun b hb=>?_,ro k.keep h2,fun b hb=>?_⟩
  ·subst hb;exact k.heap b h1.lt (hC b rfl)
  ·subst hb;rw [k.old b h1.lt (hC b rfl)];exact h3 b rfl
abbrev gu{α:Type}(r:Rp α)(T:TypeId)(l:Option Nat)(cap:Nat)(xs:List α):OE:=kR false r T l cap xs
abbrev cv{α:Type}(r:Rp α)(T:TypeId)(l:Option Nat)(cap:Nat)(xs:List α):OE:=kR true r T l cap xs
def iC{α:Type}(xs ys:List α):Option (List α):=if xs.length+ys.length≤68719476736 then some (xs++ys)else none
variable{zs:List α}
theorem Oq(h:iC xs ys=some zs):zs=xs++ys∧xs.length+ys.length≤68719476736:=by
 unfold iC at h
 split at h
 ·exact⟨by simpa using h.symm,by assumption⟩
 ·cases h
variable{news:List Value}
theorem wR{P:Program}{t tx ty:TypeId}{i:TypeInfo}(ht:P.underlying t=some (.slice e))(hi:P.info? e=some i){g sLen sCap:Nat}{cur:Array Value}(hg:w.heap[g]? =some (.cells cur e (0,0))){x:Value}{n:Nat}(hs:Src P i.size tx x n news w)(hroom:sLen+n≤sCap)(hfit:sLen*i.size+news.length≤cur.size):
  (Builtin.append_ #[t,tx] ty #[.slice (some ⟨g,0,none⟩) sLen sCap,x]).run P w=
   .ok (.slice (some ⟨g,0,none⟩) (sLen+n) sCap) (w.setRow g (cur.toList.take (sLen*i.size)++news++cur.toList.drop (sLen*i.size+news.length)).toArray):=by
 have hst:=run_storeCells_at P g (sLen*i.size) e news 0 cur w hg (by simpa using hfit) hs.one
 simp only [zx]at hst
 rcases hs.kind with⟨e',hk⟩|hk<;>simp [Builtin.append_,iN ht,iN hk,sizeOf,typeInfo,hi,hs.len,hroom,hs.cells,Addr.add_lit,hst]
structure QZ(l:Option Nat)(w w' :World):Prop where
 os:w'.os=w.os
 tape:w'.tape=w.tape
 output:w'.output=w.output
 drawn:w.drawn≤w'.drawn
 size:w.heap.size≤w'.heap.size
 heap: ∀k,k<w.heap.size→l≠some k→w'.heap[k]? =w.heap[k]?
variable{t' :TypeId}
theorem Ca{P:Program}{t ty:TypeId}{sz:Nat}{agg:Bool}{n m:Nat}{x:Value}(ti:TI P T sz bytes agg z)(hz:Nat.beq z.length sz=true)(h0:Nat.blt 0 sz=true)(h128:Nat.ble bytes 2048=true)(ht:P.underlying t=some (.slice T))(h:xi w T sz l cap n cells)(hs:Src P sz t' x m news w)(hlen:n+m≤68719476736):
  ∃l' cap' w',(Builtin.append_ #[t,t'] ty #[aD l cap n,x]).run P w= .ok (aD l' cap' (n+m)) w' ∧xi w' T sz l' cap' (n+m) (cells++news)∧QZ l w w' ∧(∀b,l' =some b→l=some b∨w.heap.size≤b)∧(∀b,l=some b→l' ≠some b→w'.heap[b]? =w.heap[b]?):=by
 obtain⟨i,zv,hi,h1,h2,h3,h4⟩:=ti.get
 have h128' :=nW h128
 have h0' :0<sz:=by simpa [tk] using h0
 have hz2:z.length=sz:=mQ hz
 subst h1
 have hnl:=hs.newsLen
 have hbytes:(n+m)*i.bytes≤140737488355328:=kZ (Nat.mul_le_mul hlen (by omega:i.bytes≤2048)) (by omega)
 by_cases hm:m=0
 ·subst hm
  have hn0:news=[]:=tp (by simpa using hnl)
  subst hn0
  refine⟨l,cap,w,?_,by simpa using h,⟨rfl,rfl,rfl,dN _,dN _,fun _ _ _=>rfl⟩,fun b hb=> .inl hb,fun b _ _=>rfl⟩
  cases l with
  |none=>
   obtain⟨rfl,_⟩:=h
   exact run_append_nothing w t t' ty T i ht hi none 0 0 (dN _) _ hs
  |some b=>
   obtain⟨cur,_,hle,_⟩:=h
   exact run_append_nothing w t t' ty T i ht hi (some ⟨b,0,none⟩) n cap hle _ hs
 have RZ: ∀old,old<n+m→Builtin.nextslicecap (n+m) old*i.bytes≤281474976710656:=fun old ho=>growslice_fits ho hbytes
 -- a new row
 have fresh: ∀(base:Option Addr) (olds:List Value),aD l cap n= .slice base n cap→olds=cells→cap<n+m→(Builtin.firstCells i.size n (.slice base n cap)).run P w.drew= .ok olds.toArray w.drew→cells.length=n*i.size→
   ∃l' cap' w',(Builtin.append_ #[t,t'] ty #[aD l cap n,x]).run P w= .ok (aD l' cap' (n+m)) w' ∧xi w' T i.size l' cap' (n+m) (cells++news)∧QZ l w w' ∧(∀b,l' =some b→l=some b∨w.heap.size≤b)∧(∀b,l=some b→l' ≠some b→w'.heap[b]? =w.heap[b]?):=by
  intro base olds hv he hg hf hcl
  subst he
  have hr:=run_append_grow_src (P:=P) w t t' ty T i zv ht hi h3 base n cap olds hf x m news hs hg (by omega) (RZ cap hg)
  have hge:=grownCap_ge w (n+m) cap T
  rw [←hv]at hr
  refine⟨some w.heap.size,grownCap w (n+m) cap T,_,hr,⟨_,BE w.drew _,hge,grownCap_le_maxLen _ _ _ _ (by simp only [maxLen];omega),?_,?_⟩,⟨rfl,rfl,rfl,Nat.le_succ _,by simp,fun k hk _=>?_⟩,fun b hb=> .inr (yh (nV hb)),fun b hb _=>?_⟩
  ·have:(Builtin.zeroCells zv.cells (grownCap w (n+m) cap T-(n+m))).size=(grownCap w (n+m) cap T-(n+m))*i.size:=by
    rw [size_zeroCells,h4];simp [hz2]
   simp only [Array.size_append,Du,jA,hcl,hnl,this]
   rw [←va,←va]
   congr 1;omega
  ·have hl2:(olds++news).length=(n+m)*i.size:=by rw [jA,hcl,hnl,va]
   rw [Array.toList_append,xl (by simp only [List.toList_toArray];omega)]
   simp only [List.toList_toArray]
   exact pV (by omega)
  ·exact lQ (w:=w.drew) hk
  ·cases l with
   |none=>cases hb
   |some b0=>
    have hb' :b0=b:=nV hb
    subst hb'
    exact lQ (w:=w.drew) (xi.lt h)
 cases l with
 |none=>
  obtain⟨rfl,rfl⟩:=h
  have:=run_append_grow_src (P:=P) w t t' ty T i zv ht hi h3 none 0 0 [] (run_firstCells_none w.drew i.size 0 0 0) x m news hs (by omega) (by omega) (RZ 0 (by omega))
  have hge:=grownCap_ge w (0+m) 0 T
  refine⟨some w.heap.size,grownCap w (0+m) 0 T,_,this,⟨_,BE w.drew _,hge,grownCap_le_maxLen _ _ _ _ (by simp only [maxLen];omega),?_,?_⟩,⟨rfl,rfl,rfl,Nat.le_succ _,by simp,fun k hk _=>?_⟩,fun b hb=> .inr (yh (nV hb)),fun b hb=>(by cases hb)⟩
  ·have:(Builtin.zeroCells zv.cells (grownCap w (0+m) 0 T-(0+m))).size=(grownCap w (0+m) 0 T-(0+m))*i.size:=by
    rw [size_zeroCells,h4];simp [hz2]
   simp only [Array.size_append,Du,iv,hnl,this]
   rw [←va]
   congr 1;omega
  ·rw [Array.toList_append,xl (by simp [hnl])]
   simp only [iv,o0]
   exact pV (by omega)
  ·exact lQ (w:=w.drew) hk
 |some b=>
  obtain⟨cur,hb,hle,hmax,hcs,hct⟩:=h
  have hcl:cells.length=n*i.size:=by
   rw [←hct,yi,BK,hcs]
   exact zz (A5 _ hle)
  by_cases hroom:n+m≤cap
  ·have hfit:n*i.size+news.length≤cur.size:=by rw [hnl,hcs,←va];exact A5 _ hroom
   have hr:=wR (t:=t) (tx:=t') (ty:=ty) ht hi hb hs hroom hfit
   refine⟨some b,cap,_,hr,⟨_,setRow_heap w b cur _ T _ hb,hroom,hmax,?_,?_⟩,⟨rfl,rfl,rfl,dN _,by simp [World.setRow],fun k hk hkb=>setRow_other w b k _ (fun e=>hkb (by rw [e]))⟩,fun b' hb' => .inl hb',fun b' hb' hne=>absurd hb' hne⟩
   ·simp only [Du,jA,yi,Ao,BK]
    omega
   ·rw [hct,va,←hnl,←hcl,show cells.length+news.length=(cells++news).length from by simp]
    exact List.take_left
  ·refine fresh (some ⟨b,0,none⟩) cells rfl rfl (by omega) (run_firstCells_some w.drew i.size n ⟨b,0,none⟩ n cap cells hcl fun j v hv=>?_) hcl
   have hj:j<cells.length:=(oT.1 hv).1
   have hcell:w.cell? ⟨b,j,none⟩=cur[j]? :=zi hb j
   rw [ig]
   show w.cell? ⟨b,0+j,none⟩=_
   rw [o0,hcell]
   rw [←hct,zE (by omega)]at hv
   simpa using hv
theorem vo{P:Program}{r:Rp α}{e' :TypeId}(ht:P.underlying t' =some (.slice e'))(hs:ii w S)(hv:(tD (eU r) ys).p S v): ∃news,Src P r.sz t' v ys.length news w∧tH r S news ys:=by
 obtain⟨ad,c2,rfl,hcap,hmax,hsl⟩:=mD.1 hv
 rcases hsl with rfl|⟨b,off,c,U,fr,e1,e2,e3⟩
 ·refine⟨[],?_,rfl⟩
  cases ad with
  |none=>exact .ofNil w ht c2
  |some a=>exact .ofSlice w ht a 0 c2 [] (by simp) (fun j u hu=>by simp at hu) (fun u hu=>by cases hu)
 ·subst e1
  obtain⟨c',h4,h5⟩:=hs.part e2 (nh e3)
  refine⟨_,.ofSlice w ht ⟨b,off,none⟩ ys.length c2 _ (nh e3) (fun j u hu=>?_) (Br e3),e3⟩
  rw [ig,zi h4]
  rw [←h5]at hu
  have hj:j<ys.length*r.sz:=by
   have:=(oT.1 hu).1
   simp at this;omega
  rw [zE hj,ve]at hu
  simpa using hu
variable{mm:Bool}
theorem vx{P:Program}{r:Rp α}{t ty:TypeId}{sz:Nat}{agg:Bool}{base:Nat}{B:Nat→Prop}(ti:TI P T sz bytes agg z)(hsz:r.sz=sz)(hz:Nat.beq z.length sz=true)(h0:Nat.blt 0 sz=true)(h128:Nat.ble bytes 2048=true)(ht:P.underlying t=some (.slice T))(hs:ii w S)(h:(kR mm r T l cap xs).holds base B w S)(hb:base≤w.heap.size)(hsrc:Src P r.sz t' v ys.length news w)(hrc:tH r S news ys)(hz' :iC xs ys=some zs):
  ∃l' cap' w' S',(Builtin.append_ #[t,t'] ty #[aD l cap xs.length,v]).run P w= .ok (aD l' cap' zs.length) w' ∧fN (fun k=>l=some k) w S w' S' ∧ii w' S' ∧(kR mm r T l' cap' zs).holds base B w' S' ∧(∀b,l' =some b→l=some b∨w.heap.size≤b):=by
 subst hsz
 obtain⟨rfl,hlen⟩:=Oq hz'
 obtain⟨⟨cells,h1,h2,h3⟩,hbase⟩:=h
 obtain⟨l',cap',w',hr,hraw,hg,hnew,hold⟩:=Ca (ty:=ty) ti hz h0 h128 ht h1 hsrc hlen
 have hrc' :tH r S (cells++news) (xs++ys):=uv h2 hrc
 -- what stood settled stands
 have hsat0: ∀k o,S k=some o→ ∃o',w'.heap[k]? =some o' ∧Dc o o' :=fun k o hk=>by
  have hlt:=hs.lt hk
  by_cases hkl:l=some k
  ·obtain⟨o',e1,e2⟩:=hs k o hk
   by_cases hkl' :l' =some k
   ·subst hkl'
    subst hkl
    have h3' :=h3 k rfl
    cases mm with
    |false=>rw [h3']at hk;cases hk
    |true=>
     rw [h3']at hk
     cases hk
     obtain⟨cur',g1,g2,g3,g4,g5⟩:=hraw
     refine⟨_,g1,?_⟩;refine⟨news++cur'.toList.drop ((xs.length+ys.length)*r.sz),?_⟩
     congr 1
     apply Array.ext'
     rw [←n6,←g5,sS]
   ·rw [hold k hkl hkl'];exact hs k o hk
  ·rw [hg.heap k hlt hkl];exact hs k o hk
 have hsat:ii w' S:=⟨hsat0,hs.gl,hs.tb⟩
 have hSn: ∀b,l' =some b→l≠some b→S b=none:=fun b hb' hne=>by
  cases hq:S b with
  |none=>rfl
  |some q=>
   have:=hs.lt hq
   rcases hnew b hb' with h|h
   ·exact absurd h hne
   ·omega
 have hbase' : ∀k,l' =some k→base≤k∨B k:=fun k hk=>by
  rcases hnew k hk with h|h
  ·exact hbase k h
  ·exact .inl (by omega)
 have hz2:(xs++ys).length=xs.length+ys.length:=jA
 cases mm with
 |false=>
  refine⟨l',cap',w',S,by rw [hz2];exact hr,⟨hg.os,hg.tape,hg.output,hg.drawn,hg.size,fun k hk hkb=>hg.heap k hk hkb,SH.le_refl _,fun _ _ _=>rfl⟩,hsat,⟨⟨cells++news,by rw [hz2];exact hraw,hrc',fun b hb' =>?_⟩,hbase'⟩,hnew⟩
  by_cases hlb:l=some b
  ·exact h3 b hlb
  ·exact hSn b hb' hlb
 |true=>
  cases l' with
  |none=>
   refine⟨none,cap',w',S,by rw [hz2];exact hr,⟨hg.os,hg.tape,hg.output,hg.drawn,hg.size,fun k hk hkb=>hg.heap k hk hkb,SH.le_refl _,fun _ _ _=>rfl⟩,hsat,⟨⟨cells++news,by rw [hz2];exact hraw,hrc',fun b hb' =>(by cases hb')⟩,hbase'⟩,hnew⟩
  |some g=>
   have hq3: ∀q,S g=some q→Dc q (.cells (cells++news).toArray T (0,0)):=fun q hq=>by
    by_cases hlb:l=some g
    ·have h4:S g=some (.cells cells.toArray T (0,0)):=h3 g hlb
     rw [h4]at hq
     cases hq
     exact⟨news,by simp⟩
    ·rw [hSn g rfl hlb]at hq;cases hq
   have hle:SH.le S (S.set g (.cells (cells++news).toArray T (0,0))):=Ae hq3
   obtain⟨cur',g1,g2,g3,g4,g5⟩:=hraw
   refine⟨some g,cap',w',S.set g (.cells (cells++news).toArray T (0,0)),by rw [hz2];exact hr,⟨hg.os,hg.tape,hg.output,hg.drawn,hg.size,fun k hk hkb=>hg.heap k hk hkb,hle,fun k hk hkb=>pB _ _ ?_⟩,hsat.set g1 ?_ hq3,⟨⟨cells++news,by rw [hz2];exact⟨cur',g1,g2,g3,g4,g5⟩,ro hle hrc',fun b hb' =>?_⟩,hbase'⟩,hnew⟩
   ·rintro rfl
    rcases hnew k rfl with h|h
    ·exact hkb h
    ·omega
   ·refine⟨cur'.toList.drop ((xs.length+ys.length)*r.sz),?_⟩
    congr 1
    apply Array.ext'
    rw [←g5,sS]
   ·have hb2:g=b:=nV hb'
    subst hb2
    exact nS _ _ _

theorem Jy{e f:OE}(h:e.apart f):f.apart e:=fun b hb he=>h b he hb
theorem cI.swap{base:Nat}{B:Nat→Prop}{e f:OE}(h:cI base B w S (e::f::O)):cI base B w S (f::e::O):=by
 obtain⟨h1,h2,h3,h4,h5⟩:=h
 refine⟨h3,?_,h1,?_,h5⟩
 ·intro g hg
  rcases gz.1 hg with rfl|hg
  ·exact Jy (h2 _ (nm ..))
  ·exact h4 g hg
 ·intro g hg
  exact h2 g (nE _ hg)
theorem tS{base:Nat}{B:Nat→Prop}{e:OE}{O' :List OE}(h:cI base B w S (e::O))(k:cI base B w S O→cI base B w S O')(hm: ∀f∈O',f∈O):cI base B w S (e::O'):=
 ⟨h.1,fun f hf=>h.2.1 f (hm f hf),k h.2.2⟩
theorem rO{base:Nat}{B:Nat→Prop}{a b c:OE}(h:cI base B w S (a::b::c::O)):cI base B w S (c::a::b::O):=
 (tS h cI.swap (fun f hf=>by simp only [gz]at hf ⊢;rcases hf with h|h|h<;>simp [h])).swap
theorem rN{base:Nat}{B:Nat→Prop}{a b c d:OE}(h:cI base B w S (a::b::c::d::O)):cI base B w S (d::a::b::c::O):=
 (tS h rO (fun f hf=>by simp only [gz]at hf ⊢;rcases hf with h|h|h|h<;>simp [h])).swap
theorem rM{base:Nat}{B:Nat→Prop}{a b c d e:OE}(h:cI base B w S (a::b::c::d::e::O)):cI base B w S (e::a::b::c::d::O):=
 (tS h rN (fun f hf=>by simp only [gz]at hf ⊢;rcases hf with h|h|h|h|h<;>simp [h])).swap

section
variable{E:En}
theorem St.own_map{O' :List OE}(h:St E O G a w S)(k:cI E.base E.B w S O→cI E.base E.B w S O'):St E O' G a w S:=⟨h.ext,h.sat,k h.own,h.facts⟩
theorem St.base_le(h:St E O G a w S):E.base≤w.heap.size:=h.ext.size
theorem St.drop{e:OE}(h:St E (e::O) G a w S):St E O G a w S:=h.own_map fun h=>h.2.2
theorem St.fresh(mm:Bool)(r:Rp α)(T:TypeId)(h:St E O G a w S):St E (kR mm r T none 0 []::O) G a w S:=
 h.own_map fun h=>by refine⟨⟨⟨[],⟨rfl,rfl⟩,rfl,fun b hb=>(by cases hb)⟩,fun k hk=>?_⟩,fun f _ b hb=>?_,h⟩<;>(first|cases hk|cases hb)
theorem B8{e:OE}{b:Nat}{o:Obj}(h:St E (e::O) G a w S)(hb:e.fp b)(ho:w.heap[b]? =some o')(hoo:Dc o o')(hn:S b=none):St E O G a w (S.set b o)∧SH.le S (S.set b o)∧fN (fun k=>k=b) w S w (S.set b o)∧ii w (S.set b o):=by
 have hbase:=h.own.1.2 b hb
 have hle:SH.le S (S.set b o):=Ae fun q hq=>(by rw [hn]at hq;cases hq)
 have hsat:ii w (S.set b o):=h.sat.set ho hoo fun q hq=>by rw [hn]at hq;cases hq
 have hext:fN (fun k=>k=b) w S w (S.set b o):=⟨rfl,rfl,rfl,dN _,dN _,fun _ _ _=>rfl,hle,fun k _ hk=>pB _ _ hk⟩
 refine⟨⟨h.ext.step hext fun c hc=>by subst hc;exact hbase,hsat,h.own.2.2.ext hext fun f hf c hc hm=>?_,h.facts.mono hle⟩,hle,hext,hsat⟩
 subst hm
 exact h.own.2.1 f hf c hb hc
def tO{α:Type}(r:Rp α)(l:Option Nat)(cap:Nat)(xs:List α):Ty where
 p:=fun S v=>v=aD l cap xs.length∧(tD (eU r) xs).p S v
 mono:=fun h ⟨h1,h2⟩=>⟨h1,Ty.mono _ h h2⟩
theorem BY{N:Fr}{G:kW}{r:Rp α}(h:aK N G x (tO r l cap xs)):aK N G x (tV (aD l cap xs.length)):=fun S a hf=>(h S a hf).1
theorem ma{N:Fr}{G:kW}{r:Rp α}(h:aK N G x (tO r l cap xs)):aK N G x (tD (eU r) xs):=fun S a hf=>(h S a hf).2
theorem oh{r:Rp α}{w:World}{S:SH}(h:Bm true r T l cap xs w S):(tD (eU r) xs).p S (aD l cap xs.length):=by
 obtain⟨cells,h1,h2,h3⟩:=h
 cases l with
 |none=>
  have hx:xs=[]:=tp h1.1
  subst hx
  exact EU
 |some b=>
  obtain⟨cur,g1,g2,g3,g4,g5⟩:=h1
  refine mD.2 ⟨_,cap,rfl,g2,g3,.inr ⟨b,0,cells.toArray,T,(0,0),rfl,h3 b rfl,?_⟩⟩
  have:=nh h2
  rw [qr,pV (by simp [this])]
  exact h2
theorem St.freeze{r:Rp α}(h:St E (gu r T l cap xs::O) G a w S):
  ∃S',St E (cv r T l cap xs::O) G a w S' :=by
 obtain⟨⟨cells,h1,h2,h3⟩,hbase⟩:=h.own.1
 cases l with
 |none=>exact⟨S,h.ext,h.sat,⟨⟨⟨cells,h1,h2,fun b hb=>(by cases hb)⟩,hbase⟩,h.own.2⟩,h.facts⟩
 |some b=>
  obtain⟨cur,g1,g2,g3,g4,g5⟩:=h1
  have hoo:Dc (.cells cells.toArray T (0,0)) (.cells cur T (0,0)):=by
   refine⟨cur.toList.drop (xs.length*r.sz),?_⟩
   congr 1
   apply Array.ext'
   rw [←g5,sS]
  obtain⟨h8,hle,_,_⟩:=B8 h rfl g1 hoo (h3 b rfl)
  refine⟨_,h8.ext,h8.sat,⟨⟨⟨cells,⟨cur,g1,g2,g3,g4,g5⟩,ro hle h2,fun b' hb' =>?_⟩,hbase⟩,h.own.2.1,h8.own⟩,h8.facts⟩
  have hb2:b=b' :=nV hb'
  subst hb2
  exact nS _ _ _
theorem St.settle{r:Rp α}(h:St E (kR mm r T l cap xs::O) G a w S):
  ∃S',St E O G a w S' ∧(tD (eU r) xs).p S' (aD l cap xs.length):=by
 cases mm with
 |true=>exact⟨S,h.drop,oh h.own.1.1⟩
 |false=>
  obtain⟨S',h1⟩:=h.freeze
  exact⟨S',h1.drop,oh h1.own.1.1⟩
end

section
variable{E:En}{e:Exit}
theorem Jf{N:Fr}(h:cR N S a G)(hk:t.p S (a.tmps.getD k undef)):cR N S a ((k,t)::G):=
 ⟨h.size,h.defers,fun j u hj=>by
  unfold look at hj
  by_cases hb:Nat.beq k j=true
  ·rw [hb]at hj
   have:=mQ hb
   subst this
   rw [←show t=u from by simpa using hj];exact hk
  ·rw [yc]at hb
   rw [hb]at hj
   exact h.at_ j u hj⟩
theorem St.cons(h:St E O G a w S)(hk:t.p S (a.tmps.getD k undef)):St E O ((k,t)::G) a w S:=⟨h.ext,h.sat,h.own,Jf h.facts hk⟩
theorem St.tipAt{r:Rp α}{n:Nat}(h:St E (cv r T l cap xs::O) G a w S)(hk:look G k=some (tV (aD l cap n)))(hn:n=xs.length):
  St E (cv r T l cap xs::O) ((k,tO r l cap xs)::G) a w S:=by
 subst hn
 have hv:a.tmps.getD k undef=aD l cap xs.length:=h.facts.at_ k _ hk
 exact h.cons ⟨hv,by rw [hv];exact oh h.own.1.1⟩
theorem cj(mm:Bool)(r:Rp α)(T:TypeId)(h:RG E ops Q rest (kR mm r T none 0 []::O) G):RG E ops Q rest O G:=fun a w S st=>h a w S (st.fresh mm r T)
theorem FZ{f:OE}(h:RG E ops Q rest O G):RG E ops Q rest (f::O) G:=fun a w S st=>h a w S st.drop
theorem CG.drop{f:OE}(h:CG E Q c O G):CG E Q c (f::O) G:=fun a w S st=>h a w S st.drop
theorem bb{f:OE}(h:AT E Q e O G):AT E Q e (f::O) G:=fun a w S st=>h a w S st.drop
theorem cb{x y:OE}(h:RG E ops Q rest (y::x::O) G):RG E ops Q rest (x::y::O) G:=fun a w S st=>h a w S (st.own_map cI.swap)
theorem cu{x y:OE}(h:AT E Q e (y::x::O) G):AT E Q e (x::y::O) G:=fun a w S st=>h a w S (st.own_map cI.swap)
theorem eI{x y z:OE}(h:RG E ops Q rest (z::x::y::O) G):RG E ops Q rest (x::y::z::O) G:=fun a w S st=>h a w S (st.own_map rO)
theorem au{x y z:OE}(h:AT E Q e (z::x::y::O) G):AT E Q e (x::y::z::O) G:=fun a w S st=>h a w S (st.own_map rO)
theorem dI{x y z:OE}(h:RG E ops Q rest (u::x::y::z::O) G):RG E ops Q rest (x::y::z::u::O) G:=fun a w S st=>h a w S (st.own_map rN)
theorem bo{x y z:OE}(h:AT E Q e (u::x::y::z::O) G):AT E Q e (x::y::z::u::O) G:=fun a w S st=>h a w S (st.own_map rN)
theorem io{x y z v:OE}(h:RG E ops Q rest (v::x::y::z::u::O) G):RG E ops Q rest (x::y::z::u::v::O) G:=fun a w S st=>h a w S (st.own_map rM)
theorem cL{x y z v:OE}(h:AT E Q e (v::x::y::z::u::O) G):AT E Q e (x::y::z::u::v::O) G:=fun a w S st=>h a w S (st.own_map rM)
theorem sP{f:OE}(h:LG E Q c O G):LG E Q c (f::O) G:=fun a w S st=>h a w S st.drop
theorem ip{x y:OE}(h:LG E Q c (y::x::O) G):LG E Q c (x::y::O) G:=fun a w S st=>h a w S (st.own_map cI.swap)
theorem mN{x y z:OE}(h:LG E Q c (z::x::y::O) G):LG E Q c (x::y::z::O) G:=fun a w S st=>h a w S (st.own_map rO)
theorem pD{x y z:OE}(h:LG E Q c (u::x::y::z::O) G):LG E Q c (x::y::z::u::O) G:=fun a w S st=>h a w S (st.own_map rN)
theorem pC{x y z v:OE}(h:LG E Q c (v::x::y::z::u::O) G):LG E Q c (x::y::z::u::v::O) G:=fun a w S st=>h a w S (st.own_map rM)
theorem q5{r:Rp α}(h:RG E ops Q rest (cv r T l cap xs::O) G):RG E ops Q rest (gu r T l cap xs::O) G:=fun a w _ st=>let⟨S',st'⟩:=st.freeze;h a w S' st'
theorem we{r:Rp α}{n:Nat}(k:Nat)(hk:look G k=some (tV (aD l cap n)))(h:RG E ops Q rest (cv r T l cap xs::O) ((k,tO r l cap xs)::G))(hn:n=xs.length:=by rfl):RG E ops Q rest (cv r T l cap xs::O) G:=fun a w S st=>h a w S (st.tipAt hk hn)
theorem Aj{r:Rp α}(h:CG E Q c (cv r T l cap xs::O) G):CG E Q c (gu r T l cap xs::O) G:=fun a w _ st=>let⟨S',st'⟩:=st.freeze;h a w S' st'
theorem zt{r:Rp α}{n:Nat}(k:Nat)(hk:look G k=some (tV (aD l cap n)))(h:CG E Q c (cv r T l cap xs::O) ((k,tO r l cap xs)::G))(hn:n=xs.length:=by rfl):CG E Q c (cv r T l cap xs::O) G:=fun a w S st=>h a w S (st.tipAt hk hn)
theorem jL{r:Rp α}(h:AT E Q e (cv r T l cap xs::O) G):AT E Q e (gu r T l cap xs::O) G:=fun a w _ st=>let⟨S',st'⟩:=st.freeze;h a w S' st'
theorem da{r:Rp α}{n:Nat}(k:Nat)(hk:look G k=some (tV (aD l cap n)))(h:AT E Q e (cv r T l cap xs::O) ((k,tO r l cap xs)::G))(hn:n=xs.length:=by rfl):AT E Q e (cv r T l cap xs::O) G:=fun a w S st=>h a w S (st.tipAt hk hn)
theorem bl{r:Rp α}(hk:look G k=some (tD (eU r) xs))(h:xs.length≤maxLen→CG E Q c O G):CG E Q c O G:=fun a w S st=>by
 obtain⟨_,_,_,h1,h2,_⟩:=mD.1 (st.facts.at_ k _ hk)
 exact h (kZ h1 h2) a w S st

section
variable{ty:TypeId}
theorem St.append{r:Rp α}{t ty:TypeId}{sz:Nat}{agg:Bool}(ti:TI E.P T sz bytes agg z)(hsz:r.sz=sz)(hz:Nat.beq z.length sz=true)(h0:Nat.blt 0 sz=true)(h128:Nat.ble bytes 2048=true)(ht:E.P.underlying t=some (.slice T))(st:St E (kR mm r T l cap xs::O) G a w S)(hsrc:Src E.P r.sz t' v ys.length news w)(hrc:tH r S news ys)(happ:iC xs ys=some zs):
  ∃l' cap' w' S',(Builtin.append_ #[t,t'] ty #[aD l cap xs.length,v]).run E.P w= .ok (aD l' cap' zs.length) w' ∧St E (kR mm r T l' cap' zs::O) G a w' S' :=by
 obtain⟨l',cap',w',S',hr,hext,hsat,hh,hnew⟩:=vx (ty:=ty) ti hsz hz h0 h128 ht st.sat st.own.1 st.base_le hsrc hrc happ
 refine⟨l',cap',w',S',hr,st.ext.step hext fun b hb=>st.own.1.2 b hb,hsat,⟨hh,fun f hf b hb hfb=>?_,st.own.2.2.ext hext fun f hf b hb hbl=>st.own.2.1 f hf b hbl hb⟩,st.facts.mono hext.keep⟩
 rcases hnew b hb with h|h
 ·exact st.own.2.1 f hf b h hfb
 ·have:=f.here (cI.mem st.own.2.2 f hf).1 b hfb
  omega
theorem St.put{d:Nat}(h:St E O G a w S)(hd:Nat.blt d E.N.n=true)(hv:t.p S v):St E O ((d,t)::G) (a.put (some d) v) w S:=⟨h.ext,h.sat,h.own,h.facts.put hd hv⟩
theorem xU{r:Rp α}{t:TypeId}{sz:Nat}{agg:Bool}{n:Nat}{u:Nat→Option Nat→Ty}(ti:TI E.P T sz bytes agg z)(hsz:r.sz=sz)(hz:Nat.beq z.length sz=true)(h0:Nat.blt 0 sz=true)(h128:Nat.ble bytes 2048=true)(ht:E.P.underlying t=some (.slice T))(hd:Nat.blt d E.N.n=true)(hx:aK E.N G x (tV (aD l cap n)))(hy: ∀a w S,St E (kR mm r T l cap xs::O) G a w S→ ∃news,Src E.P r.sz t' (a.eval y) ys.length news w∧tH r S news ys)(happ:iC xs ys=some zs)(hu: ∀l' cap' w0 S,(kR mm r T l' cap' zs).p w0 S→(u cap' l').p S (aD l' cap' zs.length))(k: ∀l' cap',RG E ops Q rest (kR mm r T l' cap' zs::O) ((d,u cap' l')::G))(hn:n=xs.length):
  RG E ops Q (⟨some d,.call ⟨.builtin .append,#[x,y],#[t,t']⟩,ty,pos,after,none⟩::rest) (kR mm r T l cap xs::O) G:= .of rfl fun a w S st=>by
 subst hn
 have h1:a.eval x=aD l cap xs.length:=hx S a st.facts
 obtain⟨news,h2,h3⟩:=hy a w S st
 obtain⟨l',cap',w',S',hr,st'⟩:=st.append (ty:=ty) ti hsz hz h0 h128 ht h2 h3 happ
 have hrun:(execOp a.eval ⟨some d,.call ⟨.builtin .append,#[x,y],#[t,t']⟩,ty,pos,after,none⟩).run E.P w= .ok (.value (aD l' cap' zs.length)) w' :=by
  simp [execOp,resolve,invoke,builtin,h1,hr]
 refine⟨fun c h=>(by cases h),?_⟩
 rw [hrun]
 exact k l' cap' _ _ S' (st'.put hd (hu l' cap' w' S' st'.own.1.1))
theorem dJ{r:Rp α}{t:TypeId}{sz:Nat}{agg:Bool}{n:Nat}(ti:TI E.P T sz bytes agg z)(hsz:r.sz=sz)(hz:Nat.beq z.length sz=true)(h0:Nat.blt 0 sz=true)(h128:Nat.ble bytes 2048=true)(ht:E.P.underlying t=some (.slice T))(ht' :t' =t)(hd:Nat.blt d E.N.n=true)(hx:aK E.N G x (tV (aD l cap n)))(hy:aK E.N G y (tD (eU r) ys))(happ:iC xs ys=some zs)(k: ∀l' cap',RG E ops Q rest (gu r T l' cap' zs::O) ((d,tV (aD l' cap' zs.length))::G))(hn:n=xs.length:=by rfl):
  RG E ops Q (⟨some d,.call ⟨.builtin .append,#[x,y],#[t,t']⟩,ty,pos,after,none⟩::rest) (gu r T l cap xs::O) G:=by
 subst ht'
 exact xU (u:=fun cap' l' =>tV (aD l' cap' zs.length)) ti hsz hz h0 h128 ht hd hx (fun a w S st=>vo ht st.sat (hy S a st.facts)) happ (fun _ _ _ _ _=>rfl) k hn
theorem rJ{r:Rp α}{t:TypeId}{sz:Nat}{agg:Bool}(ti:TI E.P T sz bytes agg z)(hsz:r.sz=sz)(hz:Nat.beq z.length sz=true)(h0:Nat.blt 0 sz=true)(h128:Nat.ble bytes 2048=true)(ht:E.P.underlying t=some (.slice T))(ht' :t' =t)(hd:Nat.blt d E.N.n=true)(hx:aK E.N G x (tO r l cap xs))(hy:aK E.N G y (tD (eU r) ys))(happ:iC xs ys=some zs)(k: ∀l' cap',RG E ops Q rest (cv r T l' cap' zs::O) ((d,tO r l' cap' zs)::G)):
  RG E ops Q (⟨some d,.call ⟨.builtin .append,#[x,y],#[t,t']⟩,ty,pos,after,none⟩::rest) (cv r T l cap xs::O) G:=by
 subst ht'
 exact xU (u:=fun cap' l' =>tO r l' cap' zs) ti hsz hz h0 h128 ht hd (BY hx) (fun a w S st=>vo ht st.sat (hy S a st.facts)) happ (fun _ _ _ _ h=>⟨rfl,oh h⟩) k rfl
end
end

theorem yZ(off:Nat): ∀(cs:List Value) (k:Nat) (pre mid post:List Value),mid.length=cs.length→pre.length=off+k→
  (cs.zipIdx k).foldl (fun(a:Array Value) x=>a.setIfInBounds (off+x.2) x.1) (pre++mid++post).toArray=(pre++cs++post).toArray
 |[],k,pre,mid,post,hm,_=>by
  have:mid=[]:=tp hm
  subst this;simp
 |c::cs,k,pre,mid,post,hm,hp=>by
  cases mid with
  |nil=>simp at hm
  |cons m mid=>
   simp only [List.zipIdx_cons,List.foldl_cons]
   have h1:(pre++(m::mid)++post).toArray.setIfInBounds (off+k) c=((pre++[c])++mid++post).toArray:=by
    rw [←hp]
    simp
   rw [h1,yZ off cs (k+1) (pre++[c]) mid post (by simpa using hm) (by simp;omega)]
   simp
theorem yu(v:Value)(off:Nat)(pre mid post:List Value)(hm:mid.length=v.cells.size)(hp:pre.length=off):
  v.cells.zipIdx.foldl (fun cs (x:Value×Nat)=>cs.setIfInBounds (off+x.2) x.1) (pre++mid++post).toArray=(pre++v.cells.toList++post).toArray:=by
 have:=yZ off v.cells.toList 0 pre mid post (by simpa using hm) (by simpa using hp)
 rw [←this,←Array.foldl_toList]
 simp [Array.toList_zipIdx]
theorem tz{r:Rp α}{x:α}(h:r.rc S cs x):(r.val cs).cells=cs.toArray:=by
 unfold Rp.val
 cases ha:r.agg with
 |true=>simp [Value.cells]
 |false=>
  have hl:=r.len h
  rw [r.sc ha]at hl
  match cs,hl with
  |[c],_=>
   have:=r.one h c (by simp)
   cases c<;>simp_all [Value.cells,Value.oneCell']
def AR:Nat→List Value→List (Nat×Value)
 |_,[]=>[]
 |k,v::vs=>(k,v)::AR (k+1) vs
theorem Cy{α:Type}{r:Rp α}{S:SH}: ∀(ys:List α) (vs:List Value) (k:Nat) (pre zs:List Value),u9 S (ys.map (tD r)) vs→pre.length=k*r.sz→zs.length=ys.length*r.sz→
  ∃cs,tH r S cs ys∧Instr.fill (fun i=>some (i*r.sz,r.sz)) (pre++zs).toArray (AR k vs)=some (pre++cs).toArray
 |[],[],k,pre,zs,_,_,hz=>by
  have:zs=[]:=tp (by simpa using hz)
  subst this
  exact⟨[],rfl,by simp [AR,Instr.fill]⟩
 |y::ys,v::vs,k,pre,zs,⟨⟨c,e,hc⟩,h2⟩,hp,hz=>by
  have hl:=r.len hc
  have hz' :r.sz≤zs.length:=by rw [hz,gJ,va];omega
  have e1:zs=zs.take r.sz++zs.drop r.sz:=(sS _ _).symm
  have hcells:v.cells=c.toArray:=by rw [e];exact tz hc
  obtain⟨cs,h3,h4⟩:=Cy ys vs (k+1) (pre++c) (zs.drop r.sz) h2 (by rw [jA,hp,hl,va];omega) (by rw [Ao,hz,gJ,va];omega)
  refine⟨c++cs,⟨c,cs,rfl,hc,h3⟩,?_⟩
  have hs:v.cells.size=r.sz:=by rw [hcells];simpa using hl
  have hcond: ¬((v.cells.size≠r.sz)∨(k*r.sz+v.cells.size>(pre++zs).toArray.size)):=by
   simp [hs];omega
  have h5:=yu v (k*r.sz) pre (zs.take r.sz) (zs.drop r.sz) (by simp [hs];omega) hp
  rw [n6,←e1]at h5
  simp only [AR,Instr.fill]
  rw [bg (by simpa using hcond)]
  rw [h5,hcells]
  simpa using h4
def xe:Nat→List Operand→List (Nat×Operand)
 |_,[]=>[]
 |k,v::vs=>(k,v)::xe (k+1) vs
theorem z8(ρ:Operand→Value): ∀(k:Nat) (xs:List Operand),(xe k xs).map (fun x=>(x.1,ρ x.2))=AR k (xs.map ρ)
 |_,[]=>rfl
 |k,x::xs=>by simp [xe,AR,z8 ρ (k+1) xs]

section
variable{E:En}{ty:TypeId}
theorem vw{P:Program}{r:Rp α}{xs:List Operand}{ρ:Operand→Value}{t:TypeId}{n sz:Nat}{agg:Bool}(ht:P.underlying t=some (.slice T))(ti:TI P T sz bytes agg z)(hsz:r.sz=sz)(hn:n=ys.length)(hb:Nat.ble (n*sz) 16777216=true)(hx:u9 S (ys.map (tD r)) (xs.map ρ))(w:World):
  ∃cs,tH r S cs ys∧(Instr.buildSlice t n ((xe 0 xs).toArray.map fun x=>(x.1,ρ x.2))).run P w= .ok (.slice (some ⟨w.heap.size,0,none⟩) n n) (w.alloc (.cells cs.toArray T (0,0))):=by
 subst hsz
 have hb' :=nW hb
 obtain⟨zv,hzr,_⟩:=ti.zero w
 obtain⟨cs,hc,hfill⟩:=Cy ys (xs.map ρ) 0 [] ((Array.range (n*r.sz)).map (fun i=>(if n*r.sz=0 then #[]else zv.cells)[i%(if n*r.sz=0 then #[]else zv.cells).size]!)).toList hx (by simp) (by simp [hn])
 refine⟨cs,hc,?_⟩
 have hparts:((xe 0 xs).toArray.map fun x=>(x.1,ρ x.2)).toList=AR 0 (xs.map ρ):=by simp [z8]
 simp only [iv,Array.toArray_toList]at hfill
 have hle: ¬(n*r.sz>2^24):=by omega
 by_cases hn0:n*r.sz=0
 ·simp only [hn0,iE]at hfill
  simp only [Instr.buildSlice,o4,iN ht,qt,ti.sizeOf,Sem.run_ite,hn0,iE,BH,hparts,hfill]
  simp [newRow]
 ·simp only [hn0,iM]at hfill
  simp only [Instr.buildSlice,o4,iN ht,qt,ti.sizeOf,Sem.run_ite,hle,iM,hn0,BH,hzr,hparts,hfill]
  simp [newRow]
theorem aQ{r:Rp α}{xs:List Operand}{parts:List (Nat×Operand)}{t:TypeId}{n sz:Nat}{agg:Bool}(ht:E.P.underlying t=some (.slice T))(ti:TI E.P T sz bytes agg z)(hsz:r.sz=sz)(h0:Nat.blt 0 sz=true)(hp:parts=xe 0 xs)(hn:n=ys.length)(hb:Nat.ble (n*sz) 16777216=true)(hx:iW E.N G xs (ys.map (tD r))):bW E O G ⟨dst,.buildSlice t n parts.toArray,ty,pos,after,g⟩ (tD (eU r) ys):=
 .of_run fun a w S hs _ hf=>by
  obtain⟨cs,hc,hr⟩:=vw ht ti hsz hn hb (hx.tys hf) w
  subst hsz
  have hb' :=nW hb
  have h0' :0<r.sz:=by simpa [tk] using h0
  have hnle:n≤n*r.sz:=Nat.le_mul_of_pos_right n h0'
  obtain⟨he,hs'⟩:=sQ (w:=w) (.cells cs.toArray T (0,0)) hs
  have hcl:=nh hc
  refine⟨.slice (some ⟨w.heap.size,0,none⟩) n n,_,_,?_,he,hs',mD.2 ⟨_,n,by rw [hn],by omega,by simp only [maxLen];omega,.inr ⟨w.heap.size,0,cs.toArray,T,(0,0),rfl,by simp [SH.set],?_⟩⟩⟩
  ·subst hp
   simp only [execOp,o4,hr,qt,BH]
  ·have:tH r (S.set w.heap.size (.cells cs.toArray T (0,0))) cs ys:=ro he.keep hc
   simpa [←hcl] using this
theorem I0{r:Rp α}{v:α}(hx:aK E.N G x (tD r v)):bW E O G ⟨dst,.box T x,ty,pos,after,g⟩ (bw r v):=
 .of_run fun a w S hs _ hf=>by
  obtain⟨cs,hv,hc⟩:=hx S a hf
  obtain⟨he,hs'⟩:=sQ (w:=w) (.cells cs.toArray T (0,0)) hs
  refine⟨.pointer (some ⟨w.heap.size,0,none⟩),_,_,?_,he,hs',w.heap.size,0,cs.toArray,T,(0,0),rfl,by simp [SH.set],?_⟩
  ·simp [execOp,Instr.box,newVar,newRow,hv,tz hc]
  ·have:=r.mono he.keep hc
   have hl:=r.len hc
   simpa [←hl] using this
end

def pf(c:Bool)(t:Ty):Ty where
 p:=fun S v=>if c=true then t.p S v else v=undef
 mono:=fun h k=>by
  split
  ·rename_i hc;rw [bm hc]at k;exact t.mono h k
  ·rename_i hc;rw [bg hc]at k;exact k
variable{pol:Bool}
section
variable{E:En}
theorem bB{N:Fr}{c:Bool}(h:look G k=some (pf c t))(hc:c=true):aK N G (.tmp k) t:=fun _ _ hF=>by
 have h2:if c=true then t.p _ (Act.eval _ (.tmp k))else _=undef:=hF.at_ k _ h
 rw [bm hc]at h2;exact h2
def sE(c b:Bool):Ty:=pf c (tD rB b)
theorem nR(h:look G k=some (tD rB b)):aK E.N G (.tmp k) (sE true b):=fun _ _ hF=>by
 have h2:(tD rB b).p _ (Act.eval _ (.tmp k)):=hF.at_ k _ h
 simp only [sE,pf,iE]
 exact h2
theorem Ei{c:Bool}(h:look G k=some (pf c (tD rB b))):aK E.N G (.tmp k) (sE c b):=fun _ _ hF=>hF.at_ k _ h
theorem uc{c:Bool}(hg:o.guard=some (j,pol))(hj:(ops[j]?).bind (·.dst)=some gs)(hn:gs<a.tmps.size)(hv:(sE c b).p S (a.tmps.getD gs undef)):
  Region.wanted o (yielded ops a.tmps)=(c&&(b==pol)):=by
 have hget:a.tmps[gs]? =some (a.tmps.getD gs undef):=by
  rw [EM,Array.getElem?_eq_getElem hn];rfl
 unfold Region.wanted
 rw [hg]
 simp only [yielded,hj,be,hget]
 cases c with
 |true=>
  have:a.tmps.getD gs undef= .bool b:=iP.1 (by simpa [sE,pf] using hv)
  rw [this]
  cases b<;>cases pol<;>rfl
 |false=>
  have:a.tmps.getD gs undef=undef:=by simpa [sE,pf] using hv
  rw [this]
  cases pol<;>rfl
theorem FX{c:Bool}{op:Op}{ty:TypeId}(hj:(ops[j]?).bind (·.dst)=some gs)(hgs:Nat.blt gs E.N.n=true)(hg:aK E.N G (.tmp gs) (sE c b))(hd:Nat.blt d E.N.n=true)(h:(c&&(b==pol))=true→bW E O G ⟨some d,op,ty,pos,after,some (j,pol)⟩ t)(k:RG E ops Q rest O ((d,pf (c&&(b==pol)) t)::G)):
  RG E ops Q (⟨some d,op,ty,pos,after,some (j,pol)⟩::rest) O G:=fun a w S st=>by
 have hgs' :gs<a.tmps.size:=by rw [st.facts.size];simpa [tk] using hgs
 have hw:=uc (o:=⟨some d,op,ty,pos,after,some (j,pol)⟩) rfl hj hgs' (hg S a st.facts)
 refine wpListIn_step fun K hK=>?_
 rw [hw]
 by_cases hc:(c&&(b==pol))=true
 ·rw [bm hc]
  refine jO (fun a' w' ⟨v,S',ha,he,hs,hv⟩=>?_) (h hc a w S st.sat st.own st.facts)
  subst ha
  refine hK _ _ (k _ _ _ (st.step he hs hd ?_))
  simpa only [pf,hc,iE] using hv
 ·rw [bg hc]
  refine⟨fun _ _=>trivial,hK _ _ (k _ _ S (st.step (fi _ _ _) st.sat hd ?_))⟩
  show if _ then _ else _
  rw [bg hc]
end

structure Nd where
 slot:Nat
 ty:Ty
 src:Option Nat
def cd(E:En)(O:List OE)(ops:Array Oper)(need:kW)(o:Oper)(t:Ty):Prop:=
 ∀a w S,ii w S→cI E.base E.B w S O→cR E.N S a need→
  if Region.wanted o (yielded ops a.tmps)then G5 E.P o a w (fun a' w' => ∃v S',a' =a.put o.dst v∧fN nZ w S w' S' ∧ii w' S' ∧t.p S' v)else t.p S undef
def iR:List Nd→kW
 |[]=>[]
 |n::l=>(n.slot,n.ty)::iR l
def Ar(o:Oper)(j:Nat):Bool:=o.after.toList.any fun e=>Nat.beq e.on j&&Region.binds .any e
def oj(l:List Oper)(o:Oper)(i:Nat)(n:Nd):Bool:=
 match n.src with
 |some j=>(match l[j]? with|some p=>(match p.dst with|some d=>Nat.beq d n.slot|none=>false)|none=>false)&&Ar o j
 |none=>l.all fun p=>(match p.dst with|some d=> !(Nat.beq d n.slot)|none=>true)||Ar p i
def wg(G:kW)(ts:List Ty)(n:Nd):Prop:=
 match n.src with
 |some j=>ts[j]? =some n.ty
 |none=>look G n.slot=some n.ty
def rQ(G:kW)(ts:List Ty):List Nd→Prop
 |[]=>True
 |n::l=>wg G ts n∧rQ G ts l
theorem rQ.mem: ∀{l:List Nd},rQ G ts l→ ∀n∈l,wg G ts n
 |_::_,⟨h,_⟩,_,.head _=>h
 |_::_,⟨_,h⟩,_,.tail _ hm=>rQ.mem h _ hm
def Qm(o:Oper):Nat:=o.dst.getD 0
def d7(i:Nat)(o:Oper):Bool:=o.after.toList.all fun e=> !(Region.binds .any e)||Nat.blt e.on i
def DR(E:En)(O:List OE)(G:kW)(l:List Oper)(ts:List Ty):Nat→List Oper→Prop
 |_,[]=>True
 |i,o::rest=>(∃(needs:List Nd) (t:Ty),ts[i]? =some t∧rQ G ts needs∧(needs.all (oj l o i))=true∧d7 i o=true∧cd E O l.toArray (iR needs) o t)∧DR E O G l ts (i+1) rest
def ug(N:Nat):List Nat→List Oper→Bool
 |_,[]=>true
 |seen,o::rest=>(match o.dst with|some d=>Nat.blt d N&& !(seen.any (Nat.beq d))&&ug N (d::seen) rest|none=>false)
def Wn(E:En)(O:List OE)(G:kW)(l:List Oper)(ts:List Ty)(i:Nat)(o:Oper):Prop:=
 ∃(needs:List Nd) (t:Ty),ts[i]? =some t∧rQ G ts needs∧(needs.all (oj l o i))=true∧d7 i o=true∧cd E O l.toArray (iR needs) o t
theorem DR.get{E:En}{l:List Oper}(r:List Oper): ∀(k:Nat),DR E O G l ts k r→ ∀(j:Nat) (o:Oper),r[j]? =some o→Wn E O G l ts (k+j) o:=by
 induction r with
 |nil=>intro k _ j o h;simp at h
 |cons p r ih=>
  intro k h j o ho
  cases j with
  |zero=>simp at ho;subst ho;exact h.1
  |succ j=>
   have:=ih (k+1) h.2 j o (by simpa using ho)
   rwa [show k+1+j=k+(j+1)from by omega]at this
theorem vp{N:Nat}(l:List Oper): ∀(seen:List Nat),ug N seen l=true→
  (∀o:Oper,o∈l→ ∃d,o.dst=some d∧d<N∧d∉seen)∧ ∀(i j:Nat) (o p:Oper),l[i]? =some o→l[j]? =some p→o.dst=p.dst→i=j:=by
 induction l with
 |nil=>exact fun _ _=>⟨fun _ h=>(by cases h),fun _ _ _ _ h=>(by simp at h)⟩
 |cons o l ih=>
  intro seen h
  unfold ug at h
  cases hd:o.dst with
  |none=>rw [hd]at h;cases h
  |some d=>
   rw [hd]at h
   simp only [jD,zB]at h
   obtain⟨⟨h1,h2⟩,h3⟩:=h
   have h2' :d∉seen:=fun hm=>by
    rw [List.any_eq_false]at h2
    exact h2 d hm (by simp)
   obtain⟨ih1,ih2⟩:=ih _ h3
   refine⟨fun q hq=>?_,fun i j q p hi hj hdp=>?_⟩
   ·rcases gz.1 hq with rfl|hq
    ·exact⟨d,hd,by simpa [tk] using h1,h2'⟩
    ·obtain⟨d',e1,e2,e3⟩:=ih1 q hq
     exact⟨d',e1,e2,fun hm=>e3 (nE _ hm)⟩
   ·cases i with
    |zero=>
     cases j with
     |zero=>rfl
     |succ j=>
      simp at hi hj
      subst hi
      obtain⟨d',e1,_,e3⟩:=ih1 p (qE hj)
      rw [hd,e1]at hdp
      have e4:d=d' :=by simpa using hdp
      exact absurd (by rw [e4];exact nm ..) e3
    |succ i=>
     cases j with
     |zero=>
      simp at hi hj
      subst hj
      obtain⟨d',e1,_,e3⟩:=ih1 q (qE hi)
      rw [hd,e1]at hdp
      have e4:d' =d:=by simpa using hdp
      exact absurd (by rw [e4];exact nm ..) e3
     |succ j=>rw [ih2 i j q p (by simpa using hi) (by simpa using hj) hdp]

structure DJ(E:En)(O:List OE)(G:kW)(l:List Oper)(ts:List Ty)(done:Array Bool)(a:Act)(w:World)(S:SH):Prop where
 ext:fN E.B E.w0 E.S0 w S
 sat:ii w S
 own:cI E.base E.B w S O
 size:a.tmps.size=E.N.n
 defers:a.defers=E.N.ds
 dsz:done.size=l.length
 down: ∀j o,l[j]? =some o→done.getD j false=true→ ∀e∈o.after,Region.binds .any e=true→done.getD e.on false=true
 old: ∀k t,look G k=some t→(∀j o,l[j]? =some o→done.getD j false=true→o.dst≠some k)→t.p S (a.tmps.getD k undef)
 new: ∀j o d t,l[j]? =some o→done.getD j false=true→o.dst=some d→ts[j]? =some t→t.p S (a.tmps.getD d undef)
theorem DJ.need{E:En}{l:List Oper}(h:DJ E O G l ts done a w S)(hi:l[i]? =some o)(hun:done.getD i true=false)(hwait: ∀e∈o.after,Region.binds .any e=true→done.getD e.on false=true){needs:List Nd}(h1:rQ G ts needs)(h2:(needs.all (oj l o i))=true):cR E.N S a (iR needs):=by
 have hlt:i<done.size:=by rw [h.dsz];exact(oT.1 hi).1
 have hun' :done.getD i false=false:=by
  simp [hlt]at hun ⊢;exact hun
 refine⟨h.size,h.defers,?_⟩
 have key: ∀n∈needs,n.ty.p S (a.tmps.getD n.slot undef):=by
  intro n hn
  have hs:=mP.1 h2 n hn
  have ho:=h1.mem n hn
  unfold oj at hs
  unfold wg at ho
  cases hsrc:n.src with
  |some j=>
   rw [hsrc]at hs ho
   simp only [jD]at hs
   obtain⟨hs1,hs2⟩:=hs
   cases hj:l[j]? with
   |none=>rw [hj]at hs1;cases hs1
   |some p=>
    rw [hj]at hs1
    cases hd:p.dst with
    |none=>simp only [hd]at hs1;cases hs1
    |some d=>
     simp only [hd]at hs1
     have hd' :=mQ hs1
     subst hd'
     have hdone:done.getD j false=true:=by
      unfold Ar at hs2
      obtain⟨e,he0,hb⟩:=A3.1 hs2
      have he:e∈o.after:=by simpa using he0
      simp only [jD]at hb
      have:=hwait e he hb.2
      rwa [mQ hb.1]at this
     exact h.new j p n.slot n.ty hj hdone hd ho
  |none=>
   rw [hsrc]at hs ho
   refine h.old _ _ ho fun j p hj hdone hd=>?_
   have:=mP.1 hs p (qE hj)
   simp only [hd,Nat.beq_refl,nT,u0]at this
   unfold Ar at this
   obtain⟨e,he0,hb⟩:=A3.1 this
   have he:e∈p.after:=by simpa using he0
   simp only [jD]at hb
   have h3:=h.down j p hj hdone e he hb.2
   rw [mQ hb.1]at h3
   rw [h3]at hun'
   cases hun'
 clear h1 h2
 intro k t hk
 induction needs with
 |nil=>simp [iR,look]at hk
 |cons n needs ih=>
  unfold iR look at hk
  by_cases hb:Nat.beq n.slot k=true
  ·rw [hb]at hk
   have:=mQ hb
   subst this
   have e:n.ty=t:=by simpa using hk
   rw [←e]
   exact key n (nm ..)
  ·rw [yc]at hb
   rw [hb]at hk
   exact ih (fun m hm=>key m (nE _ hm)) hk
def IW:List Oper→List Ty→kW→kW
 |o::l,t::ts,G=>(Qm o,t)::IW l ts G
 |_,_,G=>G
theorem Ed(l:List Oper): ∀(ts:List Ty) (k:Nat) (t:Ty),(∀o:Oper,o∈l→o.dst≠none)→ts.length=l.length→look (IW l ts G) k=some t→
  (∃(j:Nat) (o:Oper),l[j]? =some o∧o.dst=some k∧ts[j]? =some t)∨(look G k=some t∧ ∀o:Oper,o∈l→o.dst≠some k):=by
 induction l with
 |nil=>
  intro ts k t _ hl h
  have:ts=[]:=tp (by simpa using hl)
  subst this
  exact .inr ⟨h,fun _ h=>(by cases h)⟩
 |cons o l ih=>
  intro ts k t hne hl h
  cases ts with
  |nil=>simp at hl
  |cons u ts=>
   unfold IW look at h
   by_cases hb:Nat.beq (Qm o) k=true
   ·rw [hb]at h
    have hk:=mQ hb
    refine .inl ⟨0,o,rfl,?_,by simpa using h⟩
    cases hd:o.dst with
    |none=>exact absurd hd (hne o (nm ..))
    |some d=>simp only [Qm,hd,Option.getD_some]at hk;rw [hk]
   ·rw [yc]at hb
    rw [hb]at h
    rcases ih ts k t (fun p hp=>hne p (nE _ hp)) (by simpa using hl) h with⟨j,p,h1,h2,h3⟩|⟨h1,h2⟩
    ·exact .inl ⟨j+1,p,by simpa using h1,h2,by simpa using h3⟩
    ·refine .inr ⟨h1,fun p hp hd=>?_⟩
     rcases gz.1 hp with rfl|hp
     ·simp [Qm,hd]at hb
     ·exact h2 p hp hd
theorem pO(hd:d<a.tmps.size):(a.put (some d) v).tmps.getD k undef=if d=k then v else a.tmps.getD k undef:=by
 by_cases h:d=k
 ·subst h;simp [Act.put,EM,hd]
 ·simp [Act.put,EM,h]
theorem DJ.step{E:En}{l:List Oper}(h:DJ E O G l ts done a w S)(hsl:ug E.N.n [] l=true)(hi:l[i]? =some o)(hwait: ∀e∈o.after,Region.binds .any e=true→done.getD e.on false=true)(ht:ts[i]? =some t)(hun:done.getD i true=false)(hext:fN nZ w S w' S')(hsat:ii w' S')(hv:t.p S' v):DJ E O G l ts (done.setIfInBounds i true) (a.put o.dst v) w' S' :=by
 obtain⟨hs1,hs2⟩:=vp l [] hsl
 obtain⟨d,hd,hdN,_⟩:=hs1 o (qE hi)
 have hda:d<a.tmps.size:=by rw [h.size];exact hdN
 have hlt:i<done.size:=by rw [h.dsz];exact(oT.1 hi).1
 have hset: ∀j,(done.setIfInBounds i true).getD j false=true→j=i∨done.getD j false=true:=fun j hj=>by
  by_cases hij:i=j
  ·exact .inl hij.symm
  ·rw [tt false hij]at hj;exact .inr hj
 have hseti:(done.setIfInBounds i true).getD i false=true:=by simp [hlt]
 have hun' :done.getD i false=false:=by simp [hlt]at hun ⊢;exact hun
 refine⟨h.ext.step0 hext,hsat,h.own.ext0 hext,?_,?_,by simp [h.dsz],fun j p hj hdone e he hb=>?_,fun k u hk hno=>?_,fun j p d' u hj hdone hd' hu=>?_⟩
 ·rw [hd];simp [Act.put,h.size]
 ·rw [hd];exact h.defers
 ·rcases hset j hdone with rfl|hj'
  ·rw [hi]at hj
   have:o=p:=by simpa using hj
   subst this
   exact t6 (hwait e he hb)
  ·exact t6 (h.down j p hj hj' e he hb)
 ·have hne:d≠k:=fun e=>hno i o hi hseti (by rw [hd,e])
  rw [hd,pO hda,bg hne]
  exact u.mono hext.keep (h.old k u hk fun j p hj hdone=>hno j p hj (t6 hdone))
 ·rw [hd,pO hda]
  rcases hset j hdone with rfl|hj'
  ·rw [hi]at hj
   have:o=p:=by simpa using hj
   subst this
   rw [hd]at hd'
   have:d=d' :=by simpa using hd'
   subst this
   rw [bm rfl]
   rw [ht]at hu
   have:t=u:=by simpa using hu
   subst this
   exact hv
  ·have hne:d≠d' :=fun e=>by
    subst e
    have:=hs2 i j o p hi hj (by rw [hd,hd'])
    subst this
    rw [hj']at hun';cases hun'
   rw [bg hne]
   exact u.mono hext.keep (h.new j p d' u hj hj' hd' hu)
theorem HQ{l:List Oper}{done:Array Bool}(hsz:done.size=l.length)(hedge: ∀i o,l[i]? =some o→d7 i o=true)(hr:Region.ready .any l.toArray done=[]): ∀n i,i<n→i<l.length→done.getD i false=true
 |0,i,h,_=>by omega
 |n+1,i,h,hi=>by
  have ih:=HQ hsz hedge hr n
  by_cases hd:done.getD i true=true
  ·have:i<done.size:=by omega
   simp [this]at hd ⊢;exact hd
  ·exfalso
   have hmem:i∈Region.ready .any l.toArray done:=by
    rw [q8]
    refine⟨by simpa using hd,l[i],by simp [hi],fun e he hb=>?_⟩
    have:=hedge i l[i] (by simp [hi])
    unfold d7 at this
    have:=mP.1 this e (by simpa using he)
    simp only [hb,nT,u0,tk]at this
    exact ih e.on (by omega) (by omega)
   rw [hr]at hmem
   cases hmem
def j7(done:Array Bool):Nat:=done.toList.countP (· ==false)
theorem o9(h:done.getD i true=false):j7 (done.setIfInBounds i true)+1=j7 done:=by
 have hlt:i<done.size:=by
  rcases jM i done.size with h' |h'
  ·exact h'
  ·simp [Array.getElem?_eq_none h']at h
 have hv:done[i]=false:=by simpa [hlt] using h
 unfold j7
 rw [Array.toList_setIfInBounds,List.countP_set (by simpa using hlt)]
 have h2:(done.toList[i]'(by simpa using hlt))=false:=by simpa using hv
 have hpos:0<done.toList.countP (· ==false):=List.countP_pos_iff.2 ⟨done.toList[i]'(by simpa using hlt),List.getElem_mem _,by rw [h2];rfl⟩
 rw [h2,bm (show(false==false)=true from rfl),bg (show¬((true==false)=true) by decide)]
 omega
theorem Ik{E:En}{l:List Oper}(hsl:ug E.N.n [] l=true)(hd:DR E O G l ts 0 l)(hQ: ∀done a w S,DJ E O G l ts done a w S→(∀i,i<l.length→done.getD i false=true)→Q .normal a w):
  ∀(fuel:Nat) (done:Array Bool) (a:Act) (w:World) (S:SH),j7 done=fuel→DJ E O G l ts done a w S→wpAnyIn (fw E.r) 0 E.P .any l.toArray Q fuel done a w:=by
 have hedge: ∀i o,l[i]? =some o→d7 i o=true:=fun i o hi=>by
  obtain⟨_,_,_,_,_,h,_⟩:=DR.get l 0 hd i o hi
  simpa using h
 have fin: ∀done a w S,DJ E O G l ts done a w S→Region.ready .any l.toArray done=[]→Q .normal a w:=fun done a w S h hr=>
  hQ done a w S h fun i hi=>HQ h.dsz hedge hr (i+1) i (by omega) hi
 intro fuel
 induction fuel with
 |zero=>
  intro done a w S hu h
  have hr:Region.ready .any l.toArray done=[]:=by
   cases hr:Region.ready .any l.toArray done with
   |nil=>rfl
   |cons i r=>
    have hm:i∈Region.ready .any l.toArray done:=by rw [hr];exact nm ..
    have:=o9 (q8.1 hm).1
    omega
  exact⟨hr,fin done a w S h hr⟩
 |succ fuel ih=>
  intro done a w S hu h
  refine⟨fin done a w S h,fun i hi=>?_⟩
  obtain⟨hun,o,ho,hwait⟩:=q8.1 hi
  have ho' :l[i]? =some o:=by simpa using ho
  obtain⟨needs,t,h1,h2,h3,_,h5⟩:=DR.get l 0 hd i o ho'
  rw [o0]at h1 h3
  have hF:=h.need ho' hun hwait h2 h3
  have h6:=h5 a w S h.sat h.own hF
  have hu' :j7 (done.setIfInBounds i true)=fuel:=by have:=o9 hun;omega
  unfold wpOpIn
  rw [ho]
  show if _ then _ else _
  by_cases hw:Region.wanted o (yielded l.toArray a.tmps)=true
  ·rw [bm hw]at h6 ⊢
   refine jO (fun a' w' ⟨v,S',ha,he,hs,hv⟩=>?_) h6
   subst ha
   exact ih _ _ _ S' hu' (h.step hsl ho' hwait h1 hun he hs hv)
  ·rw [bg hw]at h6 ⊢
   exact⟨fun _ _=>trivial,ih _ _ _ S hu' (h.step hsl ho' hwait h1 hun (fi _ _ _) h.sat h6)⟩
section
variable{E:En}
theorem iq{id:Nat}{l:List Oper}(hm:E.P.follows .mixedOrders=true)(hsl:ug E.N.n [] l=true)(hlen:ts.length=l.length)(hd:DR E O G l ts 0 l)(k:AT E Q .normal O (IW l ts G)):
  CG E Q (.region id l.toArray true) O G:=fun a w S st=>by
 refine wpIn_region_any hm ?_
 obtain⟨he,hs⟩:=wi (w:=w) st.sat
 refine Ik hsl hd (fun done a w S h hall=>k a w S ⟨h.ext,h.sat,h.own,h.size,h.defers,fun j t hj=>?_⟩) _ _ _ _ S ?_
  ⟨st.ext.step0 he,hs,st.own.ext0 he,st.facts.size,st.facts.defers,by simp,fun j o hj hdone=>?_,fun k t hk _=>st.facts.at_ k t hk,fun j o d t hj hdone=>?_⟩
 ·obtain⟨hs1,_⟩:=vp l [] hsl
  rcases Ed l ts j t (fun o ho e=>by obtain⟨d,hd,_⟩:=hs1 o ho;rw [hd]at e;cases e) hlen hj with⟨i,o,h1,h2,h3⟩|⟨h1,h2⟩
  ·exact h.new i o j t h1 (hall i (oT.1 h1).1) h2 h3
  ·exact h.old j t h1 fun i o ho _=>h2 o (qE ho)
 ·unfold j7;rw [JO,JM];simp
 ·simp [xk]at hdone
  split at hdone<;>simp at hdone
 ·simp [xk]at hdone
  split at hdone<;>simp at hdone
theorem ae{need:kW}(hg:o.guard=none)(h:bW E O need o t):cd E O ops need o t:=fun a w S hs ho hf=>by
 have:Region.wanted o (yielded ops a.tmps)=true:=by unfold Region.wanted;rw [hg]
 rw [this,bm rfl]
 exact h a w S hs ho hf
theorem A1{l:List Oper}{need:kW}{c:Bool}(hg:o.guard=some (j,pol))(hj:((l.toArray)[j]?).bind (·.dst)=some gs)(hgs:Nat.blt gs E.N.n=true)(hb:aK E.N need (.tmp gs) (sE c b))(h:(c&&(b==pol))=true→bW E O need o t):cd E O l.toArray need o (pf (c&&(b==pol)) t):=fun a w S hs ho hf=>by
 have hw:=uc (ops:=l.toArray) hg hj (by rw [hf.size];simpa [tk] using hgs) (hb S a hf)
 rw [hw]
 by_cases hc:(c&&(b==pol))=true
 ·rw [bm hc]
  refine mG (fun a' w' ⟨v,S',ha,he,hs,hv⟩=>⟨v,S',ha,he,hs,?_⟩) (h hc a w S hs ho hf)
  show if _ then _ else _
  rw [bm hc];exact hv
 ·rw [bg hc]
  show if _ then _ else _
  rw [bg hc]
end
variable{α0 α1 α2 α3 α4 α5:Type}{Gf:α0→α1→α2→α3→α4→α5→kW}{Of:α0→α1→α2→α3→α4→α5→List OE}{α6:Type}
section
variable{E:En}
theorem EG{id:Nat}{Z:Prop}{Of:List OE}{Gf:kW}(hK:Z→AT E Q .normal (Of) (Gf))(h:(Z→AT E Q .normal (Of) (Gf))→CG E (Exit.inBlock id Q) c O G):CG E Q (.block id c) O G:=aB (h hK)
theorem Ml{x y:Code}{Z:Prop}{Of:List OE}{Gf:kW}(hK:Z→CG E Q y (Of) (Gf))
  (h:(Z→AT E (Exit.then (y.wpIn (fw E.r) 0 E.P Q) Q) .normal (Of) (Gf))→CG E (Exit.then (y.wpIn (fw E.r) 0 E.P Q) Q) x O G):CG E Q (.seq x y) O G:=af (h (fun hz=>hK hz))
theorem fM{Z:List β→α0→Prop}{Of:List β→α0→List OE}{Gf:List β→α0→kW}(h0: ∀x0,Z [] x0→LG E Q c (Of [] x0) (Gf [] x0))(h: ∀b l,(∀x0,Z l x0→LG E Q c (Of l x0) (Gf l x0))→ ∀x0,Z (b::l) x0→LG E Q c (Of (b::l) x0) (Gf (b::l) x0)): ∀l,∀x0,Z l x0→LG E Q c (Of l x0) (Gf l x0)
 |[]=>h0
 |b::l=>h b l (fM h0 h l)
theorem KK{Z:Nat→α0→Prop}{Of:Nat→α0→List OE}{Gf:Nat→α0→kW}(h0: ∀x0,Z 0 x0→LG E Q c (Of 0 x0) (Gf 0 x0))(h: ∀n,(∀x0,Z n x0→LG E Q c (Of n x0) (Gf n x0))→ ∀x0,Z (n+1) x0→LG E Q c (Of (n+1) x0) (Gf (n+1) x0)): ∀n,∀x0,Z n x0→LG E Q c (Of n x0) (Gf n x0)
 |0=>h0
 |n+1=>h n (KK h0 h n)
theorem EF{id:Nat}{Z:α0→Prop}{Of:α0→List OE}{Gf:α0→kW}(hK: ∀x0,Z x0→AT E Q .normal (Of x0) (Gf x0))(h:(∀x0,Z x0→AT E Q .normal (Of x0) (Gf x0))→CG E (Exit.inBlock id Q) c O G):CG E Q (.block id c) O G:=aB (h hK)
theorem jK{x y:Code}{Z:α0→Prop}{Of:α0→List OE}{Gf:α0→kW}(hK: ∀x0,Z x0→CG E Q y (Of x0) (Gf x0))(h:(∀x0,Z x0→AT E (Exit.then (y.wpIn (fw E.r) 0 E.P Q) Q) .normal (Of x0) (Gf x0))→CG E (Exit.then (y.wpIn (fw E.r) 0 E.P Q) Q) x O G):CG E Q (.seq x y) O G:=af (h (fun x0=>fun hz=>hK x0 hz))
theorem nd{Z:List β→α0→α1→Prop}{Of:List β→α0→α1→List OE}{Gf:List β→α0→α1→kW}(h0: ∀x0 x1,Z [] x0 x1→LG E Q c (Of [] x0 x1) (Gf [] x0 x1))(h: ∀b l,(∀x0 x1,Z l x0 x1→LG E Q c (Of l x0 x1) (Gf l x0 x1))→ ∀x0 x1,Z (b::l) x0 x1→LG E Q c (Of (b::l) x0 x1) (Gf (b::l) x0 x1)): ∀l,∀x0 x1,Z l x0 x1→LG E Q c (Of l x0 x1) (Gf l x0 x1)
 |[]=>h0
 |b::l=>h b l (nd h0 h l)
theorem Mo{id:Nat}{Z:α0→α1→Prop}{Of:α0→α1→List OE}{Gf:α0→α1→kW}(hK: ∀x0 x1,Z x0 x1→AT E Q .normal (Of x0 x1) (Gf x0 x1))(h:(∀x0 x1,Z x0 x1→AT E Q .normal (Of x0 x1) (Gf x0 x1))→CG E (Exit.inBlock id Q) c O G):CG E Q (.block id c) O G:=aB (h hK)
theorem oQ{Z:List β→α0→α1→α2→Prop}{Of:List β→α0→α1→α2→List OE}{Gf:List β→α0→α1→α2→kW}(h0: ∀x0 x1 x2,Z [] x0 x1 x2→LG E Q c (Of [] x0 x1 x2) (Gf [] x0 x1 x2))(h: ∀b l,(∀x0 x1 x2,Z l x0 x1 x2→LG E Q c (Of l x0 x1 x2) (Gf l x0 x1 x2))→ ∀x0 x1 x2,Z (b::l) x0 x1 x2→LG E Q c (Of (b::l) x0 x1 x2) (Gf (b::l) x0 x1 x2)): ∀l,∀x0 x1 x2,Z l x0 x1 x2→LG E Q c (Of l x0 x1 x2) (Gf l x0 x1 x2)
 |[]=>h0
 |b::l=>h b l (oQ h0 h l)
theorem KJ{Z:Nat→α0→α1→α2→Prop}{Of:Nat→α0→α1→α2→List OE}{Gf:Nat→α0→α1→α2→kW}(h0: ∀x0 x1 x2,Z 0 x0 x1 x2→LG E Q c (Of 0 x0 x1 x2) (Gf 0 x0 x1 x2))(h: ∀n,(∀x0 x1 x2,Z n x0 x1 x2→LG E Q c (Of n x0 x1 x2) (Gf n x0 x1 x2))→ ∀x0 x1 x2,Z (n+1) x0 x1 x2→LG E Q c (Of (n+1) x0 x1 x2) (Gf (n+1) x0 x1 x2)): ∀n,∀x0 x1 x2,Z n x0 x1 x2→LG E Q c (Of n x0 x1 x2) (Gf n x0 x1 x2)
 |0=>h0
 |n+1=>h n (KJ h0 h n)
theorem Mk{x y:Code}{Z:α0→α1→α2→Prop}{Of:α0→α1→α2→List OE}{Gf:α0→α1→α2→kW}(hK: ∀x0 x1 x2,Z x0 x1 x2→CG E Q y (Of x0 x1 x2) (Gf x0 x1 x2))(h:(∀x0 x1 x2,Z x0 x1 x2→AT E (Exit.then (y.wpIn (fw E.r) 0 E.P Q) Q) .normal (Of x0 x1 x2) (Gf x0 x1 x2))→CG E (Exit.then (y.wpIn (fw E.r) 0 E.P Q) Q) x O G):CG E Q (.seq x y) O G:=af (h (fun x0 x1 x2=>fun hz=>hK x0 x1 x2 hz))
theorem F1{Z:Nat→α0→α1→α2→α3→Prop}{Of:α0→α1→α2→α3→List OE}{Gf:α0→α1→α2→α3→kW}(h0: ∀x0 x1 x2 x3,Z 0 x0 x1 x2 x3→False)(h: ∀n,(∀x0 x1 x2 x3,Z n x0 x1 x2 x3→LG E Q c (Of x0 x1 x2 x3) (Gf x0 x1 x2 x3))→ ∀x0 x1 x2 x3,Z (n+1) x0 x1 x2 x3→LG E Q c (Of x0 x1 x2 x3) (Gf x0 x1 x2 x3)): ∀n,∀x0 x1 x2 x3,Z n x0 x1 x2 x3→LG E Q c (Of x0 x1 x2 x3) (Gf x0 x1 x2 x3)
 |0=>fun x0 x1 x2 x3 hz=>(h0 x0 x1 x2 x3 hz).elim
 |n+1=>h n (F1 h0 h n)
theorem oP{Z:List β→α0→α1→α2→α3→Prop}{Of:List β→α0→α1→α2→α3→List OE}{Gf:List β→α0→α1→α2→α3→kW}(h0: ∀x0 x1 x2 x3,Z [] x0 x1 x2 x3→LG E Q c (Of [] x0 x1 x2 x3) (Gf [] x0 x1 x2 x3))(h: ∀b l,(∀x0 x1 x2 x3,Z l x0 x1 x2 x3→LG E Q c (Of l x0 x1 x2 x3) (Gf l x0 x1 x2 x3))→ ∀x0 x1 x2 x3,Z (b::l) x0 x1 x2 x3→LG E Q c (Of (b::l) x0 x1 x2 x3) (Gf (b::l) x0 x1 x2 x3)): ∀l,∀x0 x1 x2 x3,Z l x0 x1 x2 x3→LG E Q c (Of l x0 x1 x2 x3) (Gf l x0 x1 x2 x3)
 |[]=>h0
 |b::l=>h b l (oP h0 h l)
theorem Mn{id:Nat}{Z:α0→α1→α2→α3→Prop}{Of:α0→α1→α2→α3→List OE}{Gf:α0→α1→α2→α3→kW}(hK: ∀x0 x1 x2 x3,Z x0 x1 x2 x3→AT E Q .normal (Of x0 x1 x2 x3) (Gf x0 x1 x2 x3))(h:(∀x0 x1 x2 x3,Z x0 x1 x2 x3→AT E Q .normal (Of x0 x1 x2 x3) (Gf x0 x1 x2 x3))→CG E (Exit.inBlock id Q) c O G):CG E Q (.block id c) O G:=aB (h hK)
theorem wh{Z:List β→α0→α1→α2→α3→α4→Prop}{Of:List β→α0→α1→α2→α3→α4→List OE}{Gf:List β→α0→α1→α2→α3→α4→kW}(h0: ∀x0 x1 x2 x3 x4,Z [] x0 x1 x2 x3 x4→LG E Q c (Of [] x0 x1 x2 x3 x4) (Gf [] x0 x1 x2 x3 x4))(h: ∀b l,(∀x0 x1 x2 x3 x4,Z l x0 x1 x2 x3 x4→LG E Q c (Of l x0 x1 x2 x3 x4) (Gf l x0 x1 x2 x3 x4))→ ∀x0 x1 x2 x3 x4,Z (b::l) x0 x1 x2 x3 x4→LG E Q c (Of (b::l) x0 x1 x2 x3 x4) (Gf (b::l) x0 x1 x2 x3 x4)): ∀l,∀x0 x1 x2 x3 x4,Z l x0 x1 x2 x3 x4→LG E Q c (Of l x0 x1 x2 x3 x4) (Gf l x0 x1 x2 x3 x4)
 |[]=>h0
 |b::l=>h b l (wh h0 h l)
theorem KL{Z:Nat→α0→α1→α2→α3→α4→α5→Prop}(h0: ∀x0 x1 x2 x3 x4 x5,Z 0 x0 x1 x2 x3 x4 x5→False)(h: ∀n,(∀x0 x1 x2 x3 x4 x5,Z n x0 x1 x2 x3 x4 x5→LG E Q c (Of x0 x1 x2 x3 x4 x5) (Gf x0 x1 x2 x3 x4 x5))→ ∀x0 x1 x2 x3 x4 x5,Z (n+1) x0 x1 x2 x3 x4 x5→LG E Q c (Of x0 x1 x2 x3 x4 x5) (Gf x0 x1 x2 x3 x4 x5)): ∀n,∀x0 x1 x2 x3 x4 x5,Z n x0 x1 x2 x3 x4 x5→LG E Q c (Of x0 x1 x2 x3 x4 x5) (Gf x0 x1 x2 x3 x4 x5)
 |0=>fun x0 x1 x2 x3 x4 x5 hz=>(h0 x0 x1 x2 x3 x4 x5 hz).elim
 |n+1=>h n (KL h0 h n)
theorem H0{Z:List β→α0→α1→α2→α3→α4→α5→Prop}{Of:List β→α0→α1→α2→α3→α4→α5→List OE}{Gf:List β→α0→α1→α2→α3→α4→α5→kW}(h0: ∀x0 x1 x2 x3 x4 x5,Z [] x0 x1 x2 x3 x4 x5→LG E Q c (Of [] x0 x1 x2 x3 x4 x5) (Gf [] x0 x1 x2 x3 x4 x5))(h: ∀b l,(∀x0 x1 x2 x3 x4 x5,Z l x0 x1 x2 x3 x4 x5→LG E Q c (Of l x0 x1 x2 x3 x4 x5) (Gf l x0 x1 x2 x3 x4 x5))→ ∀x0 x1 x2 x3 x4 x5,Z (b::l) x0 x1 x2 x3 x4 x5→LG E Q c (Of (b::l) x0 x1 x2 x3 x4 x5) (Gf (b::l) x0 x1 x2 x3 x4 x5)): ∀l,∀x0 x1 x2 x3 x4 x5,Z l x0 x1 x2 x3 x4 x5→LG E Q c (Of l x0 x1 x2 x3 x4 x5) (Gf l x0 x1 x2 x3 x4 x5)
 |[]=>h0
 |b::l=>h b l (H0 h0 h l)
theorem EE{id:Nat}{Z:α0→α1→α2→α3→α4→α5→Prop}(hK: ∀x0 x1 x2 x3 x4 x5,Z x0 x1 x2 x3 x4 x5→AT E Q .normal (Of x0 x1 x2 x3 x4 x5) (Gf x0 x1 x2 x3 x4 x5))(h:(∀x0 x1 x2 x3 x4 x5,Z x0 x1 x2 x3 x4 x5→AT E Q .normal (Of x0 x1 x2 x3 x4 x5) (Gf x0 x1 x2 x3 x4 x5))→CG E (Exit.inBlock id Q) c O G):CG E Q (.block id c) O G:=aB (h hK)
theorem Mj{x y:Code}{Z:α0→α1→α2→α3→α4→α5→Prop}(hK: ∀x0 x1 x2 x3 x4 x5,Z x0 x1 x2 x3 x4 x5→CG E Q y (Of x0 x1 x2 x3 x4 x5) (Gf x0 x1 x2 x3 x4 x5))(h:(∀x0 x1 x2 x3 x4 x5,Z x0 x1 x2 x3 x4 x5→AT E (Exit.then (y.wpIn (fw E.r) 0 E.P Q) Q) .normal (Of x0 x1 x2 x3 x4 x5) (Gf x0 x1 x2 x3 x4 x5))→CG E (Exit.then (y.wpIn (fw E.r) 0 E.P Q) Q) x O G):CG E Q (.seq x y) O G:=af (h (fun x0 x1 x2 x3 x4 x5=>fun hz=>hK x0 x1 x2 x3 x4 x5 hz))
theorem CS{Z:List β→α0→α1→α2→α3→α4→α5→α6→Prop}{Of:List β→α0→α1→α2→α3→α4→α5→α6→List OE}{Gf:List β→α0→α1→α2→α3→α4→α5→α6→kW}(h0: ∀x0 x1 x2 x3 x4 x5 x6,Z [] x0 x1 x2 x3 x4 x5 x6→LG E Q c (Of [] x0 x1 x2 x3 x4 x5 x6) (Gf [] x0 x1 x2 x3 x4 x5 x6))(h: ∀b l,(∀x0 x1 x2 x3 x4 x5 x6,Z l x0 x1 x2 x3 x4 x5 x6→LG E Q c (Of l x0 x1 x2 x3 x4 x5 x6) (Gf l x0 x1 x2 x3 x4 x5 x6))→ ∀x0 x1 x2 x3 x4 x5 x6,Z (b::l) x0 x1 x2 x3 x4 x5 x6→LG E Q c (Of (b::l) x0 x1 x2 x3 x4 x5 x6) (Gf (b::l) x0 x1 x2 x3 x4 x5 x6)): ∀l,∀x0 x1 x2 x3 x4 x5 x6,Z l x0 x1 x2 x3 x4 x5 x6→LG E Q c (Of l x0 x1 x2 x3 x4 x5 x6) (Gf l x0 x1 x2 x3 x4 x5 x6)
 |[]=>h0
 |b::l=>h b l (CS h0 h l)
theorem Ai{x y:Code}{Z:α0→α1→α2→α3→α4→α5→α6→Prop}{Of:α0→α1→α2→α3→α4→α5→α6→List OE}{Gf:α0→α1→α2→α3→α4→α5→α6→kW}(hK: ∀x0 x1 x2 x3 x4 x5 x6,Z x0 x1 x2 x3 x4 x5 x6→CG E Q y (Of x0 x1 x2 x3 x4 x5 x6) (Gf x0 x1 x2 x3 x4 x5 x6))(h:(∀x0 x1 x2 x3 x4 x5 x6,Z x0 x1 x2 x3 x4 x5 x6→AT E (Exit.then (y.wpIn (fw E.r) 0 E.P Q) Q) .normal (Of x0 x1 x2 x3 x4 x5 x6) (Gf x0 x1 x2 x3 x4 x5 x6))→CG E (Exit.then (y.wpIn (fw E.r) 0 E.P Q) Q) x O G):CG E Q (.seq x y) O G:=af (h (fun x0 x1 x2 x3 x4 x5 x6=>fun hz=>hK x0 x1 x2 x3 x4 x5 x6 hz))
theorem HY{α7:Type}{Z:List β→α0→α1→α2→α3→α4→α5→α6→α7→Prop}{Of:List β→α0→α1→α2→α3→α4→α5→α6→α7→List OE}{Gf:List β→α0→α1→α2→α3→α4→α5→α6→α7→kW}(h0: ∀x0 x1 x2 x3 x4 x5 x6 x7,Z [] x0 x1 x2 x3 x4 x5 x6 x7→LG E Q c (Of [] x0 x1 x2 x3 x4 x5 x6 x7) (Gf [] x0 x1 x2 x3 x4 x5 x6 x7))(h: ∀b l,(∀x0 x1 x2 x3 x4 x5 x6 x7,Z l x0 x1 x2 x3 x4 x5 x6 x7→LG E Q c (Of l x0 x1 x2 x3 x4 x5 x6 x7) (Gf l x0 x1 x2 x3 x4 x5 x6 x7))→ ∀x0 x1 x2 x3 x4 x5 x6 x7,Z (b::l) x0 x1 x2 x3 x4 x5 x6 x7→LG E Q c (Of (b::l) x0 x1 x2 x3 x4 x5 x6 x7) (Gf (b::l) x0 x1 x2 x3 x4 x5 x6 x7)): ∀l,∀x0 x1 x2 x3 x4 x5 x6 x7,Z l x0 x1 x2 x3 x4 x5 x6 x7→LG E Q c (Of l x0 x1 x2 x3 x4 x5 x6 x7) (Gf l x0 x1 x2 x3 x4 x5 x6 x7)
 |[]=>h0
 |b::l=>h b l (HY h0 h l)
theorem KI{α7 α8:Type}{Z:Nat→α0→α1→α2→α3→α4→α5→α6→α7→α8→Prop}{Of:Nat→α0→α1→α2→α3→α4→α5→α6→α7→α8→List OE}{Gf:Nat→α0→α1→α2→α3→α4→α5→α6→α7→α8→kW}(h0: ∀x0 x1 x2 x3 x4 x5 x6 x7 x8,Z 0 x0 x1 x2 x3 x4 x5 x6 x7 x8→LG E Q c (Of 0 x0 x1 x2 x3 x4 x5 x6 x7 x8) (Gf 0 x0 x1 x2 x3 x4 x5 x6 x7 x8))(h: ∀n,(∀x0 x1 x2 x3 x4 x5 x6 x7 x8,Z n x0 x1 x2 x3 x4 x5 x6 x7 x8→LG E Q c (Of n x0 x1 x2 x3 x4 x5 x6 x7 x8) (Gf n x0 x1 x2 x3 x4 x5 x6 x7 x8))→ ∀x0 x1 x2 x3 x4 x5 x6 x7 x8,Z (n+1) x0 x1 x2 x3 x4 x5 x6 x7 x8→LG E Q c (Of (n+1) x0 x1 x2 x3 x4 x5 x6 x7 x8) (Gf (n+1) x0 x1 x2 x3 x4 x5 x6 x7 x8)): ∀n,∀x0 x1 x2 x3 x4 x5 x6 x7 x8,Z n x0 x1 x2 x3 x4 x5 x6 x7 x8→LG E Q c (Of n x0 x1 x2 x3 x4 x5 x6 x7 x8) (Gf n x0 x1 x2 x3 x4 x5 x6 x7 x8)
 |0=>h0
 |n+1=>h n (KI h0 h n)
end
theorem bs{α:Type _}{β:Type _}{x:Option α}{k:α→Option β}{r:β}(h:x.bind k=some r): ∃y,x=some y∧k y=some r:=by
 cases x with
 |none=>cases h
 |some y=>exact⟨y,rfl,h⟩
theorem ct{β:Type _}{x y:Option β}{r:β}(h:(if b=true then x else y)=some r)(hb:b=true):x=some r:=by rwa [bm hb]at h
theorem cf{β:Type _}{x y:Option β}{r:β}(h:(if b=true then x else y)=some r)(hb:b=false):y=some r:=by rwa [bg (by rw [hb];decide)]at h
theorem so{β:Type _}{x r:β}(h:some x=some r):x=r:=by simpa using h
theorem og [Inhabited α]{x:Option α}{k:α→Option β}{d:Option β}{r:β}(h:(if b=true then x.bind k else d)=some r): ∃y,(b=true→x=some y∧k y=some r)∧(b=false→d=some r):=by
 cases b with
 |true=>obtain⟨y,h1,h2⟩:=bs (ct h rfl);exact⟨y,fun _=>⟨h1,h2⟩,fun e=>(by cases e)⟩
 |false=>exact⟨default,fun e=>(by cases e),fun _=>cf h rfl⟩

def cc{α β:Type}(p:Rp α)(q:Rp β):Rp (α×β) where
 sz:=p.sz+q.sz
 agg:=true
 rc:=fun S cs x=> ∃a b,cs=a++b∧p.rc S a x.1∧q.rc S b x.2
 mono:=fun h ⟨a,b,e,h1,h2⟩=>⟨a,b,e,p.mono h h1,q.mono h h2⟩
 len:=fun⟨a,b,e,h1,h2⟩=>by rw [e,jA,p.len h1,q.len h2]
 one:=fun⟨a,b,e,h1,h2⟩ c hc=>by
  rw [e]at hc
  rcases xj.1 hc with h|h
  ·exact p.one h1 c h
  ·exact q.one h2 c h
 sc:=fun h=>by cases h
def lb{α β:Type}(p:Rp α)(f:β→α):Rp β where
 sz:=p.sz
 agg:=true
 rc:=fun S cs x=>p.rc S cs (f x)
 mono:=fun h k=>p.mono h k
 len:=fun h=>p.len h
 one:=fun h=>p.one h
 sc:=fun h=>by cases h
theorem cw{p:Rp α}{f:β→α}:lV (lb p f) 0 p f:=fun S cs x h=>by
 have h' :p.rc S cs (f x):=h
 have hl:=p.len h'
 rw [qr,←hl,yj];exact h'
theorem dn{γ:Type}{p:Rp α}{q:Rp β}{r:Rp γ}{get:γ→α×β}(h:lV r off (cc p q) get):lV r off p (fun x=>(get x).1):=fun S cs x k=>by
 obtain⟨a,b,e,h1,h2⟩:=h S cs x k
 have hl:=p.len h1
 have hl2:=q.len h2
 have:(cs.drop off).take p.sz=a:=by
  have e2:=congrArg (List.take p.sz) e
  rw [zy,zz (by show p.sz≤p.sz+q.sz;omega),←hl,List.take_left]at e2
  rw [←hl];exact e2
 rw [this];exact h1
theorem aM{γ:Type}{p:Rp α}{q:Rp β}{r:Rp γ}{off' :Nat}{get:γ→α×β}(h:lV r off (cc p q) get)(ho:off' =off+p.sz):lV r off' q (fun x=>(get x).2):=fun S cs x k=>by
 obtain⟨a,b,e,h1,h2⟩:=h S cs x k
 have hl:=p.len h1
 have hl2:=q.len h2
 have:(cs.drop off').take q.sz=b:=by
  have e2:=congrArg (List.drop p.sz) e
  rw [BF,sR,←hl,List.drop_left]at e2
  rw [ho,←hl,←e2]
  congr 1
  show q.sz=p.sz+q.sz-a.length
  omega
 rw [this];exact h2

section
variable{E:En}
theorem Qv{op:Op}{ty:TypeId}(hj:(ops[j]?).bind (·.dst)=some gs)(hgs:Nat.blt gs E.N.n=true)(hg:look G gs=some (tD rB b))(hd:Nat.blt d E.N.n=true)(h:b=true→bW E O G ⟨some d,op,ty,pos,after,some (j,true)⟩ t)(k:RG E ops Q rest O ((d,pf b t)::G)):RG E ops Q (⟨some d,op,ty,pos,after,some (j,true)⟩::rest) O G:=by
 have e:(true&&(b==true))=b:=by cases b<;>rfl
 exact FX hj hgs (nR hg) hd (by rw [e];exact h) (by rw [e];exact k)
theorem Qw{op:Op}{ty:TypeId}(hj:(ops[j]?).bind (·.dst)=some gs)(hgs:Nat.blt gs E.N.n=true)(hg:look G gs=some (tD rB b))(hd:Nat.blt d E.N.n=true)(h:(!b)=true→bW E O G ⟨some d,op,ty,pos,after,some (j,false)⟩ t)(k:RG E ops Q rest O ((d,pf (!b) t)::G)):RG E ops Q (⟨some d,op,ty,pos,after,some (j,false)⟩::rest) O G:=by
 have e:(true&&(b==false))= !b:=by cases b<;>rfl
 exact FX hj hgs (nR hg) hd (by rw [e];exact h) (by rw [e];exact k)
theorem j4{c:Bool}{op:Op}{ty:TypeId}(hj:(ops[j]?).bind (·.dst)=some gs)(hgs:Nat.blt gs E.N.n=true)(hg:look G gs=some (pf c (tD rB b)))(hd:Nat.blt d E.N.n=true)(h:(c&&b)=true→bW E O G ⟨some d,op,ty,pos,after,some (j,true)⟩ t)(k:RG E ops Q rest O ((d,pf (c&&b) t)::G)):RG E ops Q (⟨some d,op,ty,pos,after,some (j,true)⟩::rest) O G:=by
 have e:(c&&(b==true))=(c&&b):=by cases b<;>rfl
 exact FX hj hgs (Ei hg) hd (by rw [e];exact h) (by rw [e];exact k)
theorem j5{c:Bool}{op:Op}{ty:TypeId}(hj:(ops[j]?).bind (·.dst)=some gs)(hgs:Nat.blt gs E.N.n=true)(hg:look G gs=some (pf c (tD rB b)))(hd:Nat.blt d E.N.n=true)(h:(c&& !b)=true→bW E O G ⟨some d,op,ty,pos,after,some (j,false)⟩ t)(k:RG E ops Q rest O ((d,pf (c&& !b) t)::G)):RG E ops Q (⟨some d,op,ty,pos,after,some (j,false)⟩::rest) O G:=by
 have e:(c&&(b==false))=(c&& !b):=by cases b<;>rfl
 exact FX hj hgs (Ei hg) hd (by rw [e];exact h) (by rw [e];exact k)
theorem kp{l:List Oper}{need:kW}(hg:o.guard=some (j,true))(hj:((l.toArray)[j]?).bind (·.dst)=some gs)(hgs:Nat.blt gs E.N.n=true)(hb:look need gs=some (tD rB b))(h:b=true→bW E O need o t):cd E O l.toArray need o (pf b t):=by
 have e:(true&&(b==true))=b:=by cases b<;>rfl
 have:=A1 (t:=t) hg hj hgs (nR (E:=E) hb) (by rw [e];exact h)
 rwa [e]at this
theorem mw{l:List Oper}{need:kW}(hg:o.guard=some (j,false))(hj:((l.toArray)[j]?).bind (·.dst)=some gs)(hgs:Nat.blt gs E.N.n=true)(hb:look need gs=some (tD rB b))(h:(!b)=true→bW E O need o t):cd E O l.toArray need o (pf (!b) t):=by
 have e:(true&&(b==false))= !b:=by cases b<;>rfl
 have:=A1 (t:=t) hg hj hgs (nR (E:=E) hb) (by rw [e];exact h)
 rwa [e]at this
theorem Dl{a:Bool}(h:a=true)(k:b=true):(a&&b)=true:=by rw [h,k];rfl
theorem vN{a:Bool}(h:a=false):(!a)=true:=by rw [h];rfl
theorem bE{c:Operand}{x y:Code}(hb:aK E.N G c (tD rB b))(h:b=true)(hx:CG E Q x O G):CG E Q (.cond c x y) O G:=oS hb (fun _=>hx) (fun e=>by rw [h]at e;cases e)
theorem bF{c:Operand}{x y:Code}(hb:aK E.N G c (tD rB b))(h:b=false)(hy:CG E Q y O G):CG E Q (.cond c x y) O G:=oS hb (fun e=>by rw [h]at e;cases e) (fun _=>hy)
end
theorem SZ [Inhabited α]{x:Option α}{k:α→Option β}{r:β}(h:b=true→x.bind k=some r): ∃y,b=true→x=some y∧k y=some r:=by
 cases b with
 |true=>obtain⟨y,h1,h2⟩:=bs (h rfl);exact⟨y,fun _=>⟨h1,h2⟩⟩
 |false=>exact⟨default,fun e=>(by cases e)⟩
section
variable{E:En}{ty:TypeId}
theorem pq{c:Operand}(hc:aK E.N G c (tD rB b))(hx:b=true→aK E.N G x (tD rB q)):bW E O G ⟨dst,.pick c x (.const (.bool false)),ty,pos,after,g⟩ (tD rB (b&&q)):=by
 refine wy hc (fun h=>?_) (fun h=>?_)
 ·subst h;exact hx rfl
 ·subst h;exact hB
theorem wx{c:Operand}(hc:aK E.N G c (tD rB b))(hx:b=false→aK E.N G x (tD rB q)):bW E O G ⟨dst,.pick c (.const (.bool true)) x,ty,pos,after,g⟩ (tD rB (b||q)):=by
 refine wy hc (fun h=>?_) (fun h=>?_)
 ·subst h;exact hB
 ·subst h;exact hx rfl
theorem fe{c:Operand}{t:Bool}(hc:aK E.N G c (tD rB b))(hx:b=true→aK E.N G x (tD rB q))(e1:b=true→some q=some t)(e0:b=false→some false=some t):bW E O G ⟨dst,.pick c x (.const (.bool false)),ty,pos,after,g⟩ (tD rB t):=by
 refine wy hc (fun h=>?_) (fun h=>?_)
 ·rw [←so (e1 h)];exact hx h
 ·rw [←so (e0 h)];exact hB
theorem gT{c:Operand}{t:Bool}(hc:aK E.N G c (tD rB b))(hx:b=false→aK E.N G x (tD rB q))(e1:(!b)=true→some q=some t)(e0:(!b)=false→some true=some t):bW E O G ⟨dst,.pick c (.const (.bool true)) x,ty,pos,after,g⟩ (tD rB t):=by
 refine wy hc (fun h=>?_) (fun h=>?_)
 ·rw [←so (e0 (by rw [h];rfl))];exact hB
 ·rw [←so (e1 (by rw [h];rfl))];exact hx h
theorem Cp(hi:ts[i]? =some t)(hx:aK E.N G x (tT ts)):bW E O G ⟨dst,.extract x i,ty,pos,after,g⟩ t:=
 .of_pure fun a w S _ _ hf=>by
  obtain⟨vs,h1,h2⟩:=hx S a hf
  obtain⟨v,h3,h4⟩:=h2.at_ i t hi
  exact⟨v,by simp [execOp,h1,Instr.extract,h3],h4⟩
theorem Fh{k:IntKind}{m n:Int}(hx:aK E.N G x (tD (rI k) m))(hy:aK E.N G y (tD (rI k) n)):bW E O G ⟨dst,.call ⟨.builtin .max,#[x,y],ats⟩,ty,pos,after,g⟩ (tD (rI k) (max m n)):=
 .of_pure fun a w S _ _ hf=>by
  have h1:a.eval x= .int k m:=dO.1 (hx S a hf)
  have h2:a.eval y= .int k n:=dO.1 (hy S a hf)
  refine⟨.int k (if n>m then n else m),by simp [execOp,resolve,invoke,builtin,Builtin.max_,Builtin.max2,h1,h2],dO.2 ?_⟩
  congr 1
  rw [Int.max_def]
  split<;>split<;>omega
theorem J5{k:IntKind}{m n:Int}(hx:aK E.N G x (tD (rI k) m))(hy:aK E.N G y (tD (rI k) n)):bW E O G ⟨dst,.call ⟨.builtin .min,#[x,y],ats⟩,ty,pos,after,g⟩ (tD (rI k) (min m n)):=
 .of_pure fun a w S _ _ hf=>by
  have h1:a.eval x= .int k m:=dO.1 (hx S a hf)
  have h2:a.eval y= .int k n:=dO.1 (hy S a hf)
  refine⟨.int k (if n<m then n else m),by simp [execOp,resolve,invoke,builtin,Builtin.min_,Builtin.min2,h1,h2],dO.2 ?_⟩
  congr 1
  rw [Int.min_def]
  split<;>split<;>omega

def iH(P:Program){α β:Type}(args:α→List Ty)(res:β→Ty)(f:α→Option β):Ty where
 p:=fun S v=> ∃fid cap,v= .func (.func fid) #[] cap∧ak P fid=true∧ ∀x y,f x=some y→ ∀w S' vs,SH.le S S' →ii w S' →u9 S' (args x) vs→
  Calls P fid (vs.toArray++cap) w fun e w' => ∃v S'',e= .returned v∧fN nZ w S' w' S'' ∧ii w' S'' ∧(res y).p S'' v
 mono:=fun h ⟨f,cap,e,hc,k⟩=>⟨f,cap,e,hc,fun x y hxy w S' vs hle=>k x y hxy w S' vs (SH.le_trans h hle)⟩
theorem RS{N:Fr}{P:Program}{f:α→Option β}{fid:FuncId}(hc:ak P fid=true)(hs: ∀x y,f x=some y→bA P fid (args x) (res y)):aK N G (.func fid) (iH P args res f):=fun S a _=>
 ⟨fid,#[],rfl,hc,fun x y h w S' vs _ hsat hv=>by simpa using hs x y h w S' vs hsat hv⟩
theorem u9.append: ∀{ts us:List Ty} {vs ws:List Value},u9 S ts vs→u9 S us ws→u9 S (ts++us) (vs++ws)
 |[],_,[],_,_,h=>h
 |_::_,_,_::_,_,⟨h1,h2⟩,h=>⟨h1,u9.append h2 h⟩
theorem qg{f:α→Option β}{fid:FuncId}{caps:List Operand}{cts:List Ty}(hc:ak E.P fid=true)(hcap:iW E.N G caps cts)(hs: ∀x y,f x=some y→bA E.P fid (args x++cts) (res y)):bW E O G ⟨dst,.makeFunc (.func fid) #[] caps.toArray,ty,pos,after,g⟩ (iH E.P args res f):=
 .of_pure fun a w S _ _ hf=>by
  refine⟨.func (.func fid) #[] (caps.map a.eval).toArray,by simp [execOp,Instr.makeFunc],fid,_,rfl,hc,fun x y h w' S' vs hle hsat hv=>?_⟩
  have hcv:=(hcap.tys hf).mono hle
  simpa using hs x y h w' S' _ hsat (hv.append hcv)
theorem jV{f:α→Option β}{fo:Operand}{x:α}{y:β}{xs:List Operand}(hfo:aK E.N G fo (iH E.P args res f))(h:f x=some y)(hx:iW E.N G xs (args x)):
  bW E O G ⟨dst,.call ⟨.value fo,xs.toArray,ats⟩,ty,pos,after,g⟩ (res y):=fun a w S hS _ hF=>by
 obtain⟨fid,cap,e,hc,hs⟩:=hfo S a hF
 have hr:(execOp a.eval ⟨dst,.call ⟨.value fo,xs.toArray,ats⟩,ty,pos,after,g⟩).run E.P w= .ok (.enter fid ((xs.map a.eval).toArray++cap)) w:=by
  simp [execOp,resolve,e,Deferred.ofValue,invoke,fq hc]
 refine⟨fun c h=>(by cases h),?_⟩
 rw [hr]
 exact(hs x y h w S _ (SH.le_refl _) hS (hx.tys hF)).mono fun e w' ⟨v,S',he,h1,h2,h3⟩=>⟨v,he,v,S',rfl,h1,h2,h3⟩
end
theorem bA.of{P:Program}{N:Nat}(hf:P.funcs[f]? =some fn)(hb:fn.body=some c)(hN:fn.ntmps=N)(hn:Nat.ble ts.length N=true)(h: ∀w0 S0,CG ⟨P,⟨N,[]⟩,nZ,w0,S0,none⟩ (bodyPost P fn (HG ⟨P,⟨N,[]⟩,nZ,w0,S0,none⟩ t)) c [] (sy 0 ts)):bA P f ts t:=by
 subst hN
 exact FV hf hb (nW hn) h
theorem nn{α:Type _}{r:α}(h:(none:Option α)=some r):False:=by cases h
theorem u7{N:Fr}:aK N G (.const (.slice none 0 0)) (tV (aD none 0 0)):=fun _ _ _=>rfl
def dj:Nat:=2^64
section
variable{E:En}{ty:TypeId}
theorem IX(l:Option Nat)(cap n:Nat)(h:l=none→n=0): ∃a c,aD l cap n= .slice a n c:=by
 cases l with
 |none=>rw [h rfl];exact⟨none,0,rfl⟩
 |some b=>exact⟨_,cap,rfl⟩
theorem hX{r:Rp α}{n:Nat}{t:TypeId}(ht:E.P.underlying t=some (.slice e))(hm:kR mm r T l cap xs∈O)(hx:aK E.N G x (tV (aD l cap n)))(hn:n=xs.length:=by rfl):
  bW E O G ⟨dst,.call ⟨.builtin .len,#[x],#[t]⟩,ty,pos,after,g⟩ (tD (rI .i64) (n:Int)):=
 .of_pure fun a w S _ ho hf=>by
  have h1:a.eval x=aD l cap n:=hx S a hf
  have h2:=(ho.mem _ hm).1
  obtain⟨ad,c,h3⟩:=IX l cap n (fun e=>by subst e;obtain⟨_,h4,_⟩:=h2;rw [hn];exact h4.1)
  refine⟨.int .i64 n,?_,dO.2 rfl⟩
  simp [execOp,resolve,invoke,builtin,Builtin.len_,iN ht,h1,h3,goInt]
end

structure OL(P:Program){α:Type} [DecidableEq α](t:TypeId)(r:Rp α):Prop where
 guard:P.eqGuardType P.depth t=false
 run: ∀(S:SH) (cs ds:List Value) (x y:α) (d:Nat) (w:World),r.rc S cs x→r.rc S ds y→(Op.equalIn (d+20) t (r.val cs) (r.val ds)).run P w= .ok (decide (x=y)) w
section
variable{E:En}{ty:TypeId}
theorem AQ{P:Program}{t:TypeId}(h:P.eqGuardType P.depth t=false){op:BinOp}{x y:Operand}{u v:Array Value}{w:World}:(eqGuard op t x y (.agg u) (.agg v)).run P w= .ok () w:=by
 unfold eqGuard
 cases op<;>first|rfl|simp [h]
theorem qH{r:Rp α}(h:r.agg=true)(cs:List Value):r.val cs= .agg cs.toArray:=by unfold Rp.val;rw [bm h]
theorem J7 [DecidableEq α]{r:Rp α}{m n:α}(he:OL E.P xt r)(hx:aK E.N G x (tD r m))(hy:aK E.N G y (tD r n))(ha:r.agg=true:=by rfl):bW E O G ⟨dst,.binOp .eql xt x y yt,ty,pos,after,g⟩ (tD rB (decide (m=n))):=
 .of_pure fun a w S _ _ hf=>by
  obtain⟨cs,h1,h2⟩:=hx S a hf
  obtain⟨ds,h3,h4⟩:=hy S a hf
  refine⟨.bool (decide (m=n)),?_,iP.2 rfl⟩
  have hr:=he.run S cs ds m n 9980 w h2 h4
  have hg:= @AQ E.P xt he.guard .eql x y cs.toArray ds.toArray w
  rw [qH ha,qH ha]at hr
  simp only [execOp,h1,h3,qH ha,o4,hg,qt,binOp,Op.equal,Op.maxDepth]
  rw [show(10000:Nat)=9980+20 from rfl,hr]
  simp
theorem J4 [DecidableEq α]{r:Rp α}{m n:α}(he:OL E.P xt r)(hx:aK E.N G x (tD r m))(hy:aK E.N G y (tD r n))(ha:r.agg=true:=by rfl):bW E O G ⟨dst,.binOp .neq xt x y yt,ty,pos,after,g⟩ (tD rB (!decide (m=n))):=
 .of_pure fun a w S _ _ hf=>by
  obtain⟨cs,h1,h2⟩:=hx S a hf
  obtain⟨ds,h3,h4⟩:=hy S a hf
  refine⟨.bool (!decide (m=n)),?_,iP.2 rfl⟩
  have hr:=he.run S cs ds m n 9980 w h2 h4
  have hg:= @AQ E.P xt he.guard .neq x y cs.toArray ds.toArray w
  rw [qH ha,qH ha]at hr
  simp only [execOp,h1,h3,qH ha,o4,hg,qt,binOp,Op.equal,Op.maxDepth]
  rw [show(10000:Nat)=9980+20 from rfl,hr]
  simp
end
end Go.Proofs.YtnmjbolollcokaaGreatDoor

