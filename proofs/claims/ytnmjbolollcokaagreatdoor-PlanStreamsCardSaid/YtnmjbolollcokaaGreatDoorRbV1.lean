/- cJ of this claim: W1, W49, W2, W3, W4, W5, W6, W7, W8, W9, W10, W11. -/
import Derived.WalkKit
import Derived.Orders
import Derived.Shelf.Unicode.CaseTo
import Derived.Shelf.Unicode.DecodeSlow
import Derived.Lone
import Derived.RunT
import Derived.Calls
import Derived.RangeFuncIn
import Derived.TacticsIn
import Derived.OrdersIn
import Derived.LoopIn
import Derived.Laws.AppendOwn
import Derived.Deep.Upon
import Derived.Lib.AppendStr
import Derived.IntWalk
set_option linter.all false
namespace Go.Proofs.YtnmjbolollcokaaGreatDoor
open Go
def md:= @List.getElem?_eq_some_iff
def fy:= @Nat.le_refl
def lA:= @List.mem_cons_of_mem
def lr:= @List.mem_cons_self
def lN:= @run_underlying
def q8:= @Nat.eq_of_beq_eq_true
def lM:= @List.mem_cons
def uO:= @Array.getElem?_eq_some_iff
def kj:= @Nat.le_of_ble_eq_true
def cM:= @if_neg
def ki:= @Bool.and_eq_true
def cU:= @if_pos
def kW:= @List.length_append
def jW:= @Option.some.inj
def kV:= @List.all_eq_true
def io:= @Nat.le_trans
def kU:= @Option.bind_some
def im:= @Nat.zero_le
def mu:= @Result.andThen_ok
def pC:= @List.take_append_drop
def th:= @List.eq_nil_of_length_eq_zero
def jV:= @Nat.lt_or_ge
def rt:= @Array.getElem?_replicate
def pM:= @List.mem_of_getElem?
def oc:= @List.append_assoc
def sf:= @Option.map_eq_some_iff
def lO:= @Sem.run_bind
def uT:= @List.getElem?_eq_getElem
def se:= @Stepped.next.injEq
def wM:= @List.getElem?_append_left
def oC:= @getD_set_true
def yq:= @Array.getD_eq_getD_getElem?
def vv:= @MapKept.run_getObj_map
def wL:= @List.getElem?_take_of_lt
def uS:= @Nat.mul_le_mul_right
def rs:= @Bool.not_eq_true
def uR:= @List.getElem?_drop
def tf:= @List.length_cons
def pL:= @Nat.zero_add
def pK:= @List.mem_map
def oa:= @Nat.blt_eq
def yp:= @List.take_of_length_le
def pB:= @Nat.add_mul
def sd:= @List.drop_drop
def te:= @List.nil_append
def vu:= @List.any_eq_true
def wK:= @List.nodup_append
def uP:= @heap_alloc_new
def vt:= @Nat.min_eq_left
def vq:= @List.mem_append
def zG:= @Bool.and_eq_true_iff
def vp:= @Bool.false_or
def td:= @getD_set_ne
def vo:= @List.map_cons
def vn:= @Bool.not_true
def Bh:= @List.mem_append_left
def wI:= @List.take_take
def rr:= @mem_ready
def yk:= @Bool.or_eq_true
def Bg:= @Array.length_toList
def Di:= @List.drop_of_length_le
def zF:= @List.length_take
def Dh:= @List.getElem?_eq_none
def Bf:= @Nat.lt_of_lt_of_le
def wH:= @Nat.le_of_eq
def zE:= @List.append_nil
def Be:= @Int.toNat_natCast
def Gc:= @List.take_append_of_le_length
def zD:= @List.drop_take
def Bd:= @List.length_drop
def Ez:= @MapKept.run_setObj_map
def Df:= @List.mem_singleton
def De:= @Bool.false_eq_true
def Ey:= @List.contains_iff_mem
def Ex:= @List.length_replicate
def ta:= @if_false
def Dd:= @List.size_toArray
def Dc:= @List.getElem?_map
def Gb:= @List.drop_eq_getElem_cons
def Bc:= @List.nodup_nil
def sb:= @Iff.rfl
def Bb:= @List.drop_zero
def ub:= @Sem.runT_fst
def xd:= @List.take_length
def vw:= @callsIn_of_wp
def xc:= @List.map_append
def Cs:= @Array.toList_replicate
def EA:= @List.drop_append_of_le_length
def zJ:= @Option.some.injEq
def Cr:= @Array.getElem?_toList
def Cq:= @List.countP_replicate
def xb:= @List.mem_range
def Cp:= @List.mem_append_right
def Co:= @List.drop_eq_nil_iff
def zI:= @MapKept.heap_set
def Cn:= @MapKept.run_checkKey

def wT:Obj→Obj→Prop
 | .cells c E fr,o' => ∃d:List Value,o' = .cells (c.toList++d).toArray E fr
 |o,o' =>o' =o
variable{o:Oper}
theorem qf(o:Obj):wT o o:=by
 cases o<;>first|rfl|exact⟨[],by simp⟩
variable{c:Code}{cells:List Value}{d:Nat}{fr:Nat×Nat}{k:Nat}{o' :Obj}
theorem xC{o o'' :Obj}(h:wT o o')(k:wT o' o''):wT o o'' :=by
 cases o with
 |cells c E fr=>
  obtain⟨d,rfl⟩:=h
  obtain⟨d',rfl⟩:=k
  exact⟨d++d',by simp⟩
 |_=>cases h;exact k
variable{off:Nat}
theorem vY{c:Array Value}{E:TypeId}(h:wT (.cells c E fr) o'){n:Nat}(hl:((c.toList.drop off).take n).length=n):
  ∃c',o' = .cells c' E fr∧(c'.toList.drop off).take n=(c.toList.drop off).take n:=by
 obtain⟨d,rfl⟩:=h
 refine⟨_,rfl,?_⟩
 by_cases hn:n=0
 ·subst hn;simp
 simp only [zF,Bd]at hl
 rw [EA (by omega),Gc (by simp only [Bd];omega)]
abbrev SH:=Nat→Option Obj
def kY(S S' :SH):Prop:= ∀b o,S b=some o→ ∃o',S' b=some o' ∧wT o o'
variable{S:SH}
theorem SH.le_refl(S:SH):kY S S:=fun _ o h=>⟨o,h,qf o⟩
variable{S' S'' :SH}{b:Bool}{e:TypeId}
theorem SH.le_trans(h:kY S S')(k:kY S' S''):kY S S'' :=fun b o e=>let⟨o',h1,h2⟩:=h b o e;let⟨o'',h3,h4⟩:=k b o' h1;⟨o'',h3,xC h2 h4⟩
structure Ty where
 p:SH→Value→Prop
 mono: ∀{S S' :SH} {v:Value},kY S S' →p S v→p S' v

structure Rp(α:Type) where
 sz:Nat
 agg:Bool
 rc:SH→List Value→α→Prop
 mono: ∀{S S' :SH} {cs:List Value} {x:α},kY S S' →rc S cs x→rc S' cs x
 len: ∀{S:SH} {cs:List Value} {x:α},rc S cs x→cs.length=sz
 one: ∀{S:SH} {cs:List Value} {x:α},rc S cs x→ ∀c∈cs,c.oneCell' =true
 sc:agg=false→sz=1

def Rp.val{α:Type}(r:Rp α)(cs:List Value):Value:=if r.agg then .agg cs.toArray else cs.headD undef

def tD{α:Type}(r:Rp α)(x:α):Ty where
 p:=fun S v=> ∃cs,v=r.val cs∧r.rc S cs x
 mono:=fun h ⟨cs,e,k⟩=>⟨cs,e,r.mono h k⟩

def sj:Ty where
 p:=fun _ _=>True
 mono:=fun _ _=>trivial

def tV(u:Value):Ty where
 p:=fun _ v=>v=u
 mono:=fun _ h=>h

def rI(k:IntKind):Rp Int where
 sz:=1
 agg:=false
 rc:=fun _ cs x=>cs=[.int k x]
 mono:=fun _ h=>h
 len:=fun h=>by rw [h];rfl
 one:=fun h c hc=>by subst h;simp at hc;subst hc;rfl
 sc:=fun _=>rfl

def rB:Rp Bool where
 sz:=1
 agg:=false
 rc:=fun _ cs x=>cs=[.bool x]
 mono:=fun _ h=>h
 len:=fun h=>by rw [h];rfl
 one:=fun h c hc=>by subst h;simp at hc;subst hc;rfl
 sc:=fun _=>rfl

abbrev jn:=List UInt8
def rS:Rp jn where
 sz:=1
 agg:=false
 rc:=fun _ cs x=>cs=[.string ⟨x.toArray⟩]
 mono:=fun _ h=>h
 len:=fun h=>by rw [h];rfl
 one:=fun h c hc=>by subst h;simp at hc;subst hc;rfl
 sc:=fun _=>rfl

variable{cs:List Value}{v:Value}
theorem cQ{k:IntKind}{n:Int}:(tD (rI k) n).p S v↔v= .int k n:=by
 constructor
 ·rintro⟨cs,rfl,h⟩;have h' :cs=[.int k n]:=h;subst h';rfl
 ·rintro rfl;exact⟨[.int k n],rfl,rfl⟩
theorem fh:(tD rB b).p S v↔v= .bool b:=by
 constructor
 ·rintro⟨cs,rfl,h⟩;have h' :cs=[.bool b]:=h;subst h';rfl
 ·rintro rfl;exact⟨[.bool b],rfl,rfl⟩
variable{α:Type}{s:Sem α}
theorem pO{s:jn}:(tD rS s).p S v↔v= .string ⟨s.toArray⟩:=by
 constructor
 ·rintro⟨cs,rfl,h⟩;have h' :cs=[.string ⟨s.toArray⟩]:=h;subst h';rfl
 ·rintro rfl;exact⟨[.string ⟨s.toArray⟩],rfl,rfl⟩

def oj{α:Type}(r:Rp α)(S:SH):List Value→List α→Prop
 |cs,[]=>cs=[]
 |cs,x::xs=> ∃a b,cs=a++b∧r.rc S a x∧oj r S b xs
variable{a:Act}{xs:List α}
theorem mH{α:Type}{r:Rp α}{S S' :SH}(h:kY S S'): ∀{xs:List α} {cs:List Value},oj r S cs xs→oj r S' cs xs
 |[],_,k=>k
 |_::_,_,⟨a,b,e,h1,h2⟩=>⟨a,b,e,r.mono h h1,mH h h2⟩
variable{x:Operand}
theorem jS{α:Type}{r:Rp α}{S:SH}: ∀{xs:List α} {cs:List Value},oj r S cs xs→cs.length=xs.length*r.sz
 |[],_,k=>by rw [show _=_ from k];simp
 |x::xs,_,⟨a,b,e,h1,h2⟩=>by rw [e,kW,r.len h1,jS h2,tf,pB];omega
theorem vc{α:Type}{r:Rp α}{S:SH}: ∀{xs:List α} {cs:List Value},oj r S cs xs→ ∀c∈cs,c.oneCell' =true
 |[],_,k,c,hc=>by rw [show _=_ from k]at hc;cases hc
 |x::xs,_,⟨a,b,e,h1,h2⟩,c,hc=>by
  rw [e]at hc
  rcases vq.1 hc with h|h
  ·exact r.one h1 c h
  ·exact vc h2 c h
variable{ys:List α}
theorem oU{α:Type}{r:Rp α}{S:SH}: ∀{xs ys:List α} {cs ds:List Value},oj r S cs xs→oj r S ds ys→oj r S (cs++ds) (xs++ys)
 |[],_,_,_,k,h=>by rw [show _=_ from k];exact h
 |_::_,_,_,_,⟨a,b,e,h1,h2⟩,h=>⟨a,_,by rw [e,oc],h1,oU h2 h⟩
theorem la{α:Type}{r:Rp α}{S:SH}: ∀{xs ys:List α} {cs:List Value},oj r S cs (xs++ys)→
  oj r S (cs.take (xs.length*r.sz)) xs∧oj r S (cs.drop (xs.length*r.sz)) ys
 |[],_,_,k=>by simp [oj];exact k
 |x::xs,ys,cs,⟨a,b,e,h1,h2⟩=>by
  have hl:=r.len h1
  have ih:=la h2
  have e1:(x::xs).length*r.sz=a.length+xs.length*r.sz:=by rw [hl,tf,pB];omega
  rw [e,e1,List.take_length_add_append,List.drop_length_add_append]
  exact⟨⟨a,_,rfl,h1,ih.1⟩,ih.2⟩
theorem BJ{r:Rp α}{x:α}:oj r S cs [x]↔r.rc S cs x:=by
 constructor
 ·rintro⟨a,b,rfl,h,hb⟩
  rw [show b=[]from hb,zE];exact h
 ·intro h;exact⟨cs,[],by simp,h,rfl⟩
variable{i:Nat}
theorem vd{r:Rp α}(h:oj r S cs xs){x:α}(hx:xs[i]? =some x):
  r.rc S ((cs.drop (i*r.sz)).take r.sz) x:=by
 have hi:i<xs.length:=(md.1 hx).1
 have e:xs=xs.take i++(x::xs.drop (i+1)):=by
  have:=md.1 hx
  rw [←this.2,←Gb hi,pC]
 have hl:(xs.take i).length=i:=by simp;omega
 rw [e]at h
 have h2:=(la h).2
 rw [hl]at h2
 obtain⟨a,b,e2,h3,_⟩:=h2
 rw [e2,←r.len h3,List.take_left]
 exact h3

def zW{α:Type}(r:Rp α)(S:SH)(a:Option Addr)(xs:List α):Prop:=
 xs=[]∨ ∃b off c E fr,a=some ⟨b,off,none⟩∧S b=some (.cells c E fr)∧oj r S ((c.toList.drop off).take (xs.length*r.sz)) xs
def dz{α:Type}(r:Rp α):Rp (List α) where
 sz:=1
 agg:=false
 rc:=fun S cs xs=> ∃a cap,cs=[.slice a xs.length cap]∧xs.length≤cap∧cap≤maxLen∧zW r S a xs
 mono:=fun h ⟨a,cap,e,h1,h2,h3⟩=>⟨a,cap,e,h1,h2,h3.imp id fun⟨b,off,c,E,fr,e1,e2,e3⟩=>by
  obtain⟨o',h4,h5⟩:=h _ _ e2
  obtain⟨c',rfl,h6⟩:=vY h5 (jS e3)
  exact⟨b,off,c',E,fr,e1,h4,by rw [h6];exact mH h e3⟩⟩
 len:=fun⟨a,cap,e,_⟩=>by rw [e];rfl
 one:=fun⟨a,cap,e,_⟩ c hc=>by rw [e]at hc;simp at hc;subst hc;rfl
 sc:=fun _=>rfl
variable{cap:Nat}
theorem jp{r:Rp α}:(tD (dz r) xs).p S v↔ ∃a cap,v= .slice a xs.length cap∧xs.length≤cap∧cap≤maxLen∧zW r S a xs:=by
 constructor
 ·rintro⟨cs,rfl,a,cap,rfl,h⟩;exact⟨a,cap,rfl,h⟩
 ·rintro⟨a,cap,rfl,h⟩;exact⟨_,rfl,a,cap,rfl,h⟩
theorem yB{r:Rp α}:(tD (dz r) []).p S (.slice none 0 0):=jp.2 ⟨none,0,rfl,fy _,im _,.inl rfl⟩

def bj{α:Type}(r:Rp α)(x:α):Ty where
 p:=fun S v=> ∃b off c E fr,v= .pointer (some ⟨b,off,none⟩)∧S b=some (.cells c E fr)∧r.rc S ((c.toList.drop off).take r.sz) x
 mono:=fun h ⟨b,off,c,E,fr,e1,e2,e3⟩=>by
  obtain⟨o',h4,h5⟩:=h _ _ e2
  obtain⟨c',rfl,h6⟩:=vY h5 (r.len e3)
  exact⟨b,off,c',E,fr,e1,h4,by rw [h6];exact r.mono h e3⟩

def glob:List (Nat×List Value):=[(0,[.string ⟨([98,111,111,108]:List UInt8).toArray⟩,.int .i64 (1),.string ⟨([105,110,116]:List UInt8).toArray⟩,.int .i64 (2),.string ⟨([116,101,120,116]:List UInt8).toArray⟩,.int .i64 (3)]),(1,[.string ⟨([83,69,76,69,67,84]:List UInt8).toArray⟩,.string ⟨([68,73,83,84,73,78,67,84]:List UInt8).toArray⟩,.string ⟨([70,82,79,77]:List UInt8).toArray⟩,.string ⟨([76,69,70,84]:List UInt8).toArray⟩,.string ⟨([74,79,73,78]:List UInt8).toArray⟩,.string ⟨([79,78]:List UInt8).toArray⟩,.string ⟨([87,72,69,82,69]:List UInt8).toArray⟩,.string ⟨([71,82,79,85,80]:List UInt8).toArray⟩,.string ⟨([66,89]:List UInt8).toArray⟩,.string ⟨([72,65,86,73,78,71]:List UInt8).toArray⟩,.string ⟨([85,78,73,79,78]:List UInt8).toArray⟩,.string ⟨([65,76,76]:List UInt8).toArray⟩,.string ⟨([79,82,68,69,82]:List UInt8).toArray⟩,.string ⟨([76,73,77,73,84]:List UInt8).toArray⟩,.string ⟨([65,83,67]:List UInt8).toArray⟩,.string ⟨([68,69,83,67]:List UInt8).toArray⟩,.string ⟨([65,83]:List UInt8).toArray⟩,.string ⟨([65,78,68]:List UInt8).toArray⟩,.string ⟨([79,82]:List UInt8).toArray⟩,.string ⟨([78,79,84]:List UInt8).toArray⟩,.string ⟨([73,83]:List UInt8).toArray⟩,.string ⟨([78,85,76,76]:List UInt8).toArray⟩,.string ⟨([84,82,85,69]:List UInt8).toArray⟩,.string ⟨([70,65,76,83,69]:List UInt8).toArray⟩,.string ⟨([67,79,85,78,84]:List UInt8).toArray⟩,.string ⟨([83,85,77]:List UInt8).toArray⟩,.string ⟨([77,73,78]:List UInt8).toArray⟩,.string ⟨([77,65,88]:List UInt8).toArray⟩])]
def Dt(w:World):Prop:=Lib.CaseVar 2 Lib.caseA w∧Lib.Utf8Tabs 4 5 w
structure eM(w:World)(S:SH):Prop where
 at_: ∀b o,S b=some o→ ∃o',w.heap[b]? =some o' ∧wT o o'
 gl: ∀p∈glob,∃c T fr,S p.1=some (.cells c T fr)∧c.toList.take p.2.length=p.2
 tb: ∀w' :World,(∀b o,S b=some o→ ∃o',w'.heap[b]? =some o' ∧wT o o')→Dt w'
instance{w:World}{S:SH}:CoeFun (eM w S) (fun _=> ∀b o,S b=some o→ ∃o',w.heap[b]? =some o' ∧wT o o'):=⟨eM.at_⟩
variable{w:World}
theorem eM.tab(h:eM w S):Dt w:=h.tb w h.at_
theorem eM.lt(h:eM w S){b:Nat}{o:Obj}(k:S b=some o):b<w.heap.size:=let⟨_,h1,_⟩:=h b o k;(uO.1 h1).1
theorem eM.part(h:eM w S){b:Nat}{c:Array Value}{E:TypeId}(k:S b=some (.cells c E fr)){n:Nat}(hl:((c.toList.drop off).take n).length=n):
  ∃c',w.heap[b]? =some (.cells c' E fr)∧(c'.toList.drop off).take n=(c.toList.drop off).take n:=by
 obtain⟨o',h1,h2⟩:=h b _ k
 obtain⟨c',rfl,h3⟩:=vY h2 hl
 exact⟨c',h1,h3⟩
variable{w' :World}
theorem eM.same(h:eM w S)(k: ∀b o,S b=some o→w'.heap[b]? =w.heap[b]?):eM w' S:=⟨fun b o e=>by rw [k b o e];exact h b o e,h.gl,h.tb⟩

def kq:Nat→Prop:=fun _=>False
structure dQ(B:Nat→Prop)(w:World)(S:SH)(w' :World)(S' :SH):Prop where
 os:w'.os=w.os
 tape:w'.tape=w.tape
 output:w'.output=w.output
 drawn:w.drawn≤w'.drawn
 size:w.heap.size≤w'.heap.size
 heap: ∀k,k<w.heap.size→ ¬B k→w'.heap[k]? =w.heap[k]?
 keep:kY S S'
 old: ∀k,k<w.heap.size→ ¬B k→S' k=S k
theorem dE(B:Nat→Prop)(w:World)(S:SH):dQ B w S w S:=⟨rfl,rfl,rfl,fy _,fy _,fun _ _ _=>rfl,SH.le_refl _,fun _ _ _=>rfl⟩
variable{w'' :World}
theorem dQ.trans{B:Nat→Prop}(h:dQ B w S w' S')(k:dQ B w' S' w'' S''):dQ B w S w'' S'' :=
 ⟨k.os.trans h.os,k.tape.trans h.tape,k.output.trans h.output,io h.drawn k.drawn,io h.size k.size,
  fun i hi hb=>(k.heap i (Bf hi h.size) hb).trans (h.heap i hi hb),SH.le_trans h.keep k.keep,
  fun i hi hb=>(k.old i (Bf hi h.size) hb).trans (h.old i hi hb)⟩
variable{C:Nat→Prop}
theorem dQ.step{B:Nat→Prop}(h:dQ B w S w' S')(k:dQ C w' S' w'' S'')(hC: ∀b,C b→w.heap.size≤b∨B b):dQ B w S w'' S'' :=
 ⟨k.os.trans h.os,k.tape.trans h.tape,k.output.trans h.output,io h.drawn k.drawn,io h.size k.size,
  fun i hi hb=>(k.heap i (Bf hi h.size) (fun hc=>(hC i hc).elim (fun h=>by omega) hb)).trans (h.heap i hi hb),SH.le_trans h.keep k.keep,
  fun i hi hb=>(k.old i (Bf hi h.size) (fun hc=>(hC i hc).elim (fun h=>by omega) hb)).trans (h.old i hi hb)⟩
theorem dQ.more{B:Nat→Prop}(h:dQ B w S w' S')(k: ∀b,B b→C b):dQ C w S w' S' :=
 ⟨h.os,h.tape,h.output,h.drawn,h.size,fun i hi hb=>h.heap i hi (fun h=>hb (k i h)),h.keep,fun i hi hb=>h.old i hi (fun h=>hb (k i h))⟩
theorem dQ.step0{B:Nat→Prop}(h:dQ B w S w' S')(k:dQ kq w' S' w'' S''):dQ B w S w'' S'' :=h.step k fun _ hb=>hb.elim

structure OE where
 fp:Nat→Prop
 p:World→SH→Prop
 here: ∀{w S},p w S→ ∀k,fp k→k<w.heap.size
 kept: ∀{C w w' S S'},p w S→dQ C w S w' S' →(∀k,fp k→ ¬C k)→p w' S'
def OE.holds(e:OE)(base:Nat)(B:Nat→Prop)(w:World)(S:SH):Prop:=e.p w S∧ ∀k,e.fp k→base≤k∨B k
def OE.apart(e f:OE):Prop:= ∀b,e.fp b→ ¬f.fp b
def ck(base:Nat)(B:Nat→Prop)(w:World)(S:SH):List OE→Prop
 |[]=>True
 |e::O=>e.holds base B w S∧(∀f∈O,e.apart f)∧ck base B w S O
theorem zz{e:OE}{base:Nat}{B:Nat→Prop}(h:e.holds base B w S)(k:dQ C w S w' S')(hC: ∀b,e.fp b→ ¬C b):e.holds base B w' S' :=⟨e.kept h.1 k hC,h.2⟩
variable{O:List OE}{f:FuncId}
theorem ck.ext{base:Nat}{B:Nat→Prop}(k:dQ C w S w' S'): ∀{O:List OE},ck base B w S O→(∀e∈O,∀b,e.fp b→ ¬C b)→ck base B w' S' O
 |[],_,_=>trivial
 |e::_,⟨h1,h2,h3⟩,hC=>⟨zz h1 k (hC e (lr ..)),h2,ck.ext k h3 fun f hf=>hC f (lA _ hf)⟩
theorem ck.ext0{base:Nat}{B:Nat→Prop}(k:dQ kq w S w' S')(h:ck base B w S O):ck base B w' S' O:=
 h.ext k fun _ _ _ _ hb=>hb
theorem ck.mem{base:Nat}{B:Nat→Prop}: ∀{O:List OE},ck base B w S O→ ∀e∈O,e.holds base B w S
 |_::_,⟨h1,_,_⟩,_,.head _=>h1
 |_::_,⟨_,_,h3⟩,_,.tail _ hm=>ck.mem h3 _ hm

abbrev gT:=List (Nat×Ty)
def look:gT→Nat→Option Ty
 |[],_=>none
 |(k,t)::G,j=>bif Nat.beq k j then some t else look G j
structure Fr where
 n:Nat
 ds:List Deferred
structure cJ(N:Fr)(S:SH)(a:Act)(G:gT):Prop where
 size:a.tmps.size=N.n
 defers:a.defers=N.ds
 at_: ∀k t,look G k=some t→t.p S (a.tmps.getD k undef)
variable{G:gT}{j:Nat}{t:Ty}
theorem cJ.mono{N:Fr}(h:cJ N S a G)(k:kY S S'):cJ N S' a G:=⟨h.size,h.defers,fun j t e=>t.mono k (h.at_ j t e)⟩
theorem cJ.sub{N:Fr}{G' :gT}(h:cJ N S a G)(k: ∀j t,look G' j=some t→look G j=some t):cJ N S a G' :=⟨h.size,h.defers,fun j t e=>h.at_ j t (k j t e)⟩
variable{u:OE}
theorem cJ.put{N:Fr}(h:cJ N S a G)(hd:Nat.blt d N.n=true)(hv:t.p S v):cJ N S (a.put (some d) v) ((d,t)::G):=by
 have hd' :d<N.n:=by simpa [oa] using hd
 refine⟨by simp [Act.put,h.size],h.defers,fun j u e=>?_⟩
 unfold look at e
 by_cases hj:d=j
 ·subst hj
  have e' :t=u:=by simpa using e
  rw [e']at hv
  simp [Act.put,yq,h.size,hd',hv]
 ·have hb:Nat.beq d j=false:=by cases hh:Nat.beq d j with
   |false=>rfl
   |true=>exact absurd (q8 hh) hj
  rw [hb]at e
  have:=h.at_ j u e
  simpa [Act.put,yq,Array.getElem?_setIfInBounds,hj] using this
def Bu:gT→gT→Prop
 |[],_=>True
 |(k,t)::G',G=>look G k=some t∧Bu G' G
theorem xk: ∀{G' G:gT},Bu G' G→ ∀j t,look G' j=some t→look G j=some t
 |(k,t)::G',G,⟨h1,h2⟩,j,u,e=>by
  unfold look at e
  by_cases hb:Nat.beq k j=true
  ·rw [hb]at e
   have:=q8 hb
   subst this
   simp only [cond_true]at e
   rw [←e];exact h1
  ·rw [rs]at hb
   rw [hb]at e
   exact xk h2 j u e

def aG(N:Fr)(G:gT)(x:Operand)(t:Ty):Prop:= ∀S a,cJ N S a G→t.p S (a.eval x)
theorem ht{N:Fr}(h:look G k=some t):aG N G (.tmp k) t:=fun _ _ hF=>hF.at_ k t h
theorem hI{N:Fr}{k:IntKind}{n:Int}:aG N G (.const (.int k n)) (tD (rI k) n):=fun _ _ _=>cQ.2 rfl
theorem hB{N:Fr}:aG N G (.const (.bool b)) (tD rB b):=fun _ _ _=>fh.2 rfl
theorem hS{N:Fr}{s:Array UInt8}:aG N G (.const (.string ⟨s⟩)) (tD rS s.toList):=fun _ _ _=>pO.2 rfl
theorem ib{N:Fr}{r:Rp α}:aG N G (.const (.slice none 0 0)) (tD (dz r) []):=fun _ _ _=>yB
theorem hV{N:Fr}:aG N G (.const v) (tV v):=fun _ _ _=>rfl

variable{R:Ending→World→Prop}{args:α→List Ty}{bytes:Nat}{done:Array Bool}{es:Array Event}{g:Option (Nat×Bool)}{gs:Nat}{l:Option Nat}{m m' :Machine}{ops:Array Oper}{q:Bool}{rest:List Oper}
section
variable{P:Program}
def wOf{α:Type}:Result α→World
 | .ok _ w=>w
 | .halt _ w=>w
theorem y6(w:World)(a:Addr)(n:Nat):(w.freeze a n).drawn=w.drawn:=by unfold World.freeze;split<;>rfl
theorem uW{at_:Addr}{u:TypeId}{k:Addr}{x:Bool}{r:World×List Addr}(h:w.viewStore P at_ u k v x= .ok r):r.1.drawn=w.drawn:=by
 unfold World.viewStore at h
 simp only [bind,Except.bind,pure,Except.pure,throw,throwThe,MonadExceptOf.throw]at h
 repeat' (split at h)
 all_goals first
  |(cases h;done)
  |(cases h;rfl)
theorem wm{a:Addr}{x:Bool}{r:World×List Addr}(h:w.farStore P a v x= .ok r):r.1.drawn=w.drawn:=by
 unfold World.farStore at h
 split at h
 ·split at h
  ·rename_i h2;cases h;exact uW h2
  ·cases h
 ·cases h
theorem tW{α:Type}: ∀(a:Ask α) (w:World),w.drawn≤(w.ask a).2.drawn
 | .done a,w=>fy _
 | .ask what range k,w=>by
  unfold World.ask
  simp only
  split
  ·exact tW (k 0) w
  ·exact io (Nat.le_succ _) (tW (k ((Question.extern what range).cut (w.tape w.drawn (Question.extern what range)))) {w with drawn:=w.drawn+1})
theorem Du(w:World)(c:Sys):w.drawn≤(w.sys c).2.drawn:=by
 unfold World.sys
 have h:=tW (Kernel.perform c w.os) w
 split
 ·exact fy _
 ·rename_i h2
  rw [h2]at h
  exact h
theorem eb{α:Type}: ∀(s:Sem α) (w:World),w.drawn≤(wOf (s.run P w)).drawn
 | .pure a,w=>fy _
 | .load m a k,w=>by
  unfold Sem.run
  split
  ·exact eb _ w
  ·split
   ·exact eb _ w
   ·exact fy _
 | .store m a v k,w=>by
  have key:w.drawn≤(wOf (match w.cell? a with
   |some _=>if w.frozen? a then .halt (.unsupported (.unsafePointer "a write to bytes that a string shares")) w else k.run P (w.setCell a v)
   |none=>match w.farStore P a v (m== .atomic)with
    | .ok (w,_)=>k.run P w
    | .error h=> .halt h w)).drawn:=by
   split
   ·split
    ·exact fy _
    ·exact eb k (w.setCell a v)
   ·split
    ·rename_i w' l h
     have:=eb k w'
     rw [show w'.drawn=w.drawn from wm h]at this
     exact this
    ·exact fy _
  cases v<;>first|exact fy _|(simp only [Sem.run];exact key)
 | .new o k,w=>eb (k w.heap.size) {w with heap:=w.heap.push o}
 | .shape r k,w=>eb (k (w.shape? r)) w
 | .freeze a n k,w=>by
  have:=eb k (w.freeze a n)
  rw [y6]at this
  exact this
 | .frozen a k,w=>eb (k (w.frozen? a)) w
 | .getObj r k,w=>by
  unfold Sem.run
  split
  ·exact fy _
  ·exact eb _ w
  ·exact fy _
 | .setObj r o k,w=>by
  unfold Sem.run
  split
  ·exact fy _
  ·exact eb k {w with heap:=w.heap.setIfInBounds r o}
  ·exact fy _
 | .choose q k,w=>by
  unfold Sem.run
  split
  ·exact eb (k 0) w
  ·exact io (Nat.le_succ _) (eb (k (q.cut (w.tape w.drawn q))) {w with drawn:=w.drawn+1})
 | .sys c k,w=>by
  exact io (Du w c) (eb (k (w.sys c).1) (w.sys c).2)
 | .program k,w=>eb (k P) w
 | .mark m k,w=>eb k w
 | .halt h,w=>fy _
theorem ci{x:α}(h:s.run P w= .ok x w'):w.drawn≤w'.drawn:=by
 have:=eb (P:=P) s w
 rw [h]at this
 exact this
theorem jh{x:Halt}(h:s.run P w= .halt x w'):w.drawn≤w'.drawn:=by
 have:=eb (P:=P) s w
 rw [h]at this
 exact this
theorem DL{x:α}{es' :Array Event}(h:s.runT P w es=(.ok x w',es')):w.drawn≤w'.drawn:=
 ci (P:=P) (s:=s) (x:=x) (by rw [←ub P s w es,h])
theorem AD{x:Halt}{es' :Array Event}(h:s.runT P w es=(.halt x w',es')):w.drawn≤w'.drawn:=
 jh (P:=P) (s:=s) (x:=x) (by rw [←ub P s w es,h])
theorem uV{rest:Rest}{cases:Array CommCase}(h:waitingAt rest cases w=some w'):w'.drawn=w.drawn:=by
 unfold waitingAt at h
 repeat' (split at h)
 all_goals (cases h;try rfl)
theorem sV(rest:Rest)(gs:Array Goroutine)(i:Nat)(g:Goroutine)(cases:Array CommCase)(blocking:Bool)
  (shape:CommShape)(w:World)(m' :Machine)(h:(communicate P rest gs i g cases blocking shape w).1= .next m'):w.drawn≤m'.world.drawn:=by
 unfold communicate at h
 simp only []at h
 repeat' first
  |(simp at h;done)
  |(simp only [se]at h;subst h;(try dsimp only);exact fy _)
  |(simp only [se]at h;subst h;(try dsimp only);exact ci (by assumption))
  |(simp only [se]at h;subst h;(try dsimp only);exact wH (uV (by assumption)).symm)
  |(simp only [se]at h;subst h;(try dsimp only);exact io (ci (by assumption)) (ci (by assumption)))
  |(simp only [se]at h;subst h;(try dsimp only);exact io (ci (by assumption)) (jh (by assumption)))
  |split at h
theorem wa(gs:Array Goroutine)(rest:Rest)(w:World)(m' :Machine)
  (h:Go.look P gs rest w= .next m'):w.drawn≤m'.world.drawn:=by
 unfold Go.look at h
 simp only []at h
 repeat' first
  |(simp at h;done)
  |(simp only [se]at h;subst h;(try dsimp only);exact ci (by assumption))
  |split at h
def vh(d:Nat):GStep→Prop
 | .go _ w _=>d≤w.drawn
 | .comm _ _ _ _ w _=>d≤w.drawn
 | .spawn _ _ w _=>d≤w.drawn
 | .count _ w _=>d≤w.drawn
 | .timer _ _ w _=>d≤w.drawn
 | .alone _ _ w _=>d≤w.drawn
 | .newcoro _ _ _ w _=>d≤w.drawn
 | .coroswitch _ _ _ w _=>d≤w.drawn
 | .collect _ w _=>d≤w.drawn
 | .watch _ w _=>d≤w.drawn
 | .ended _ _ _=>True
theorem li{s:GStep}(h:vh d s):vh d (s.after es):=by cases s<;>exact h
theorem mQ{e:Nat}{s:GStep}(h:vh d s)(k:e≤d):vh e s:=by
 cases s<;>first|exact io k h|trivial
theorem Ca(d:Nat)(w:World)(fd:Nat)(text:ByteArray)(o:Outcome):vh d (endWith w fd text o):=by
 unfold endWith
 repeat' split
 all_goals trivial
theorem FN(fr:Frame)(dI:List ByteArray)(m:String)(whole:Bool)(w:World):vh w.drawn (dieOf fr dI m whole w):=fy _
theorem nG(fr:Frame)(m:String)(w:World):vh w.drawn (endThrow fr m w):=fy _
theorem qv(fr:Frame)(v:Value)(w:World):vh w.drawn (endPrinting P fr v w):=by
 unfold endPrinting
 simp only []
 split
 ·exact fy _
 ·trivial
theorem uG(fr:Frame)(callers:List Frame)(dying:Option Dying)(m:String)(w:World):vh w.drawn (endFatal P fr callers dying m w):=by
 unfold endFatal
 simp only []
 split
 ·exact mQ (FN _ _ _ _ _) (ci (by assumption))
 ·trivial
 ·trivial
theorem Bp(fr:Frame)(d:Dying)(f:Fatal)(w:World):vh w.drawn (writeOn P fr d f w):=by
 unfold writeOn
 simp only []
 split
 ·trivial
 ·split
  ·exact DL (by assumption)
  ·exact AD (by assumption)
  ·trivial
  ·trivial
theorem JC(fr:Frame)(d:Dying)(w:World):vh w.drawn (die P fr d w):=by
 unfold die
 simp only []
 split
 ·exact Bp _ _ _ _
 ·split
  ·split
   ·exact fy _
   ·exact Ca _ _ _ _ _
  ·split
   ·exact fy _
   ·split
    ·exact ci (by assumption)
    ·trivial
   ·apply li
    split
    ·exact ci (P:=P) (by rw [←ub];assumption)
    ·exact ci (P:=P) (by rw [←ub];assumption)
    ·trivial
    ·exact mQ (qv _ _ _) (jh (P:=P) (by rw [←ub];assumption))
    ·trivial
   ·trivial
theorem ld{x:α}(h:(s.runT P w es).1= .ok x w'):w.drawn≤w'.drawn:=ci (P:=P) (s:=s) (x:=x) (by rw [←ub P s w es,h])
theorem nA{x:Halt}(h:(s.runT P w es).1= .halt x w'):w.drawn≤w'.drawn:=jh (P:=P) (s:=s) (x:=x) (by rw [←ub P s w es,h])
theorem qx(main:Bool)(fr:Frame)(callers:List Frame)(dying:Option Dying)(v:Value)(w:World):vh w.drawn (doReturn P main fr callers dying v w):=by
 unfold doReturn
 simp only []
 repeat' split
 all_goals first|exact fy _|trivial
theorem y0{c:Prop} [Decidable c]{a b:GStep}(ha:vh d a)(hb:vh d b):vh d (if c then a else b):=by split<;>assumption
theorem u6(fr:Frame)(callers:List Frame)(dying:Option Dying)(d:Deferred)(w:World):vh w.drawn (callDeferred P fr callers dying d w):=by
 unfold callDeferred
 simp only []
 refine y0 trivial (li ?_)
 split
 all_goals first
  |exact ld (by assumption)
  |exact nA (by assumption)
  |trivial
  |exact mQ (uG _ _ _ _ _) (nA (by assumption))
  |exact mQ (nG _ _ _) (nA (by assumption))
  |(split<;>exact ld (by assumption))
theorem Dm(main:Bool)(fr:Frame)(callers:List Frame)(dying:Option Dying)(w:World):vh w.drawn (unwind P main fr callers dying w):=by
 unfold unwind
 simp only []
 split
 ·apply li
  split
  ·exact ld (by assumption)
  ·trivial
 ·exact u6 _ _ _ _ _
 ·split
  ·trivial
  ·split
   ·trivial
   ·split
    ·exact fy _
    ·split
     ·split
      ·exact fy _
      ·split
       ·exact ci (by assumption)
       ·trivial
       ·trivial
     ·split
      ·exact qv _ _ _
      ·trivial
  ·split
   ·exact qx _ _ _ _ _ _
   ·apply li
    split
    ·exact mQ (qx _ _ _ _ _ _) (ld (by assumption))
    ·trivial
    ·trivial
theorem FK(fr:Frame)(callers:List Frame)(dying:Option Dying)(g:Nat)(w:World):vh w.drawn (early P fr callers dying g w):=by
 have hn: ∀w1:World,w.drawn≤w1.drawn→vh w.drawn (match w1.heap[g]? with
   |some (.pending c elem)=> .go {frame:=fr,callers,status:= .running,dying} {w1 with heap:=w1.heap.setIfInBounds g (.cells c elem)}
   |_=> .ended (.stuck "early: the variable does not wait" (fr.pos P)) w1):=fun w1 h=>by
  split
  ·exact h
  ·trivial
 unfold early
 simp only []
 repeat' first
  |trivial
  |exact hn _ (fy _)
  |exact fy _
  |exact hn _ (ci (by assumption))
  |exact ci (P:=P) (by assumption)
  |split
theorem qz(main:Bool)(listen:Bool)(fr:Frame)(callers:List Frame)(dying:Option Dying)(s:Sem Next)(w:World):vh w.drawn (stepG.apply P listen fr callers dying s w):=by
  unfold stepG.apply
  simp only []
  apply li
  have hr:(if listen=true then s.runT P w #[]else(s.run P w,#[])).1=s.run P w:=by
    split
    · exact ub _ _ _ _
    · rfl
  rw [hr]
  split
  all_goals first
    |exact ci (by assumption)
    |exact jh (by assumption)
    |trivial
    |exact mQ (uG _ _ _ _ _) (jh (by assumption))
    |exact mQ (nG _ _ _) (jh (by assumption))
    |exact mQ (FK _ _ _ _ _) (jh (by assumption))
    | (repeat' split
       all_goals first
        |exact ci (by assumption)
        |exact mQ (nG _ _ _) (ci (by assumption)))
theorem Gt(main listen:Bool)(fr:Frame)(callers:List Frame)(dying:Option Dying)(w:World):vh w.drawn (stepG.oper P listen fr callers dying w):=by
 unfold stepG.oper
 split
 ·trivial
 ·split
  ·exact qz main _ _ _ _ _ _
  ·exact qz main _ _ _ _ _ _
theorem Hp(main listen:Bool)(fr:Frame)(callers:List Frame)(dying:Option Dying)(w:World):vh w.drawn (stepG.exec P main listen fr callers dying w):=by
 have leave: ∀(c:Prop) (_:Decidable c) (jump:Option Code),vh w.drawn (match fr.roundOf with
   |none=>if c then GStep.go {frame:={fr with mode:= .returning},callers,status:= .running,dying} w else .ended (.stuck "exit, goto: no such block or label" (fr.pos P)) w
   |some l=>GStep.after (seen P fr.fn ((Instr.endRound l jump).runT P w #[]).2) (match ((Instr.endRound l jump).runT P w #[]).1 with
    | .ok v w=>doReturn P main fr callers dying v w
    | .halt _ w=> .ended (.stuck "range over a function: no such loop" (fr.pos P)) w)):=fun c _ jump=>by
  split
  ·exact y0 (fy _) trivial
  ·apply li
   split
   ·exact mQ (qx _ _ _ _ _ _) (ld (by assumption))
   ·trivial
 unfold stepG.exec
 simp only []
 split
 all_goals first
  |exact leave _ _ _
  |exact fy _
  |exact qz main _ _ _ _ _ _
  |trivial
  |(split<;>first|exact fy _|trivial)
  |(cases h:exitTo _ _<;>first|exact fy _|exact leave _ _ _)
  |(cases h:gotoIn _ _<;>first|exact fy _|exact leave _ _ _)
  |(cases h:Extern.next _<;>first|trivial|exact qz main _ _ _ _ _ _)
  |(apply li;split<;>first|trivial|exact ld (by assumption)|exact nA (by assumption)|exact mQ (qz main _ _ _ _ _ _) (ld (by assumption)))
  |(refine y0 (fy _) ?_;split<;>first|trivial|exact ci (by assumption))
  |(refine y0 ?_ (fy _);exact Gt main _ _ _ _ _)
  |skip
theorem ES(main listen:Bool)(g:Goroutine)(w:World):vh w.drawn (stepG P main g w listen):=by
 unfold stepG
 simp only []
 split
 ·exact JC _ _ _
 ·exact Hp _ _ _ _ _ _
 ·exact Dm _ _ _ _ _
theorem wP{op:TimerOp}(h:timerOp m op= .ok (v,m')):m.world.drawn≤m'.world.drawn:=by
 have hr: ∀(m0:Machine) (k:Nat) (t:Timer) (when_ period:Nat),(retime m0 k t when_ period).2.world.drawn=m0.world.drawn:=fun m0 k t a b=>by
  unfold retime drain
  cases t.chan with
  |none=>rfl
  |some c=>simp only [];split<;>rfl
 have ho: ∀{var:Addr} {m0:Machine},timerOp.opened m var=some m0→m0.world.drawn=m.world.drawn:=fun{var m0} h=>by
  unfold timerOp.opened at h
  repeat' (split at h)
  all_goals (cases h;try rfl)
 have hn: ∀{var:Addr} {m0:Machine} {f:Nat→Timer→Value×Machine} {r:Value×Machine},timerOp.named m0 var f= .ok r→ ∃k t,r=f k t:=fun{var m0 f r} h=>by
  unfold timerOp.named at h
  split at h
  ·cases h;exact⟨_,_,rfl⟩
  ·cases h
 unfold timerOp at h
 split at h
 ·repeat' (split at h)
  all_goals first
   |(cases h;exact fy _)
   |(cases h;done)
 ·obtain⟨k,t,e⟩:=hn h
  rw [show m' =(retime m k t 0 t.period).2 from congrArg Prod.snd e,hr]
  exact fy _
 ·split at h
  ·rename_i m0 hm0
   obtain⟨k,t,e⟩:=hn h
   rw [show m' =(retime m0 k t _ _).2 from congrArg Prod.snd e,hr,ho hm0]
   exact fy _
  ·cases h
 ·simp only [Except.ok.injEq,Prod.mk.injEq]at h
  rw [←h.2]
  exact fy _
theorem AK{fr:Frame}{m:String}{g:Goroutine}(h:endThrow fr m w= .go g w' es):w.drawn≤w'.drawn:=by
 have:=nG fr m w
 rw [h]at this
 exact this
theorem BF(m m' :Machine)(i:Nat)(b:Bool)(h:(runT P m i b).1= .next m'):m.world.drawn≤m'.world.drawn:=by
  simp only [runT]at h
  revert h
  generalize m.gs.swapAt! _ _=gg
  have hs:=ES (P:=P) (i==0) b gg.1 m.world
  revert hs
  generalize stepG P _ gg.1 m.world b=s
  intro hs h
  cases s<;>simp only []at h
  all_goals first
    |(simp at h;done)
    |exact io hs (sV _ _ _ _ _ _ _ _ _ h)
    |exact io hs (wa _ _ _ _ h)
    |(simp only [se]at h;subst h;exact hs)
    |(repeat' first
        |(simp at h;done)
        |(simp only [se]at h;subst h;exact hs)
        |(simp only [se]at h;subst h;exact io hs (wP (by assumption)))
        |(simp only [se]at h;subst h;exact io hs (AK (by assumption)))
        |split at h)
theorem Ad(m m' :Machine)(k:Nat)(h:serve P m k= .next m'):m.world.drawn≤m'.world.drawn:=by
 unfold serve at h
 simp only []at h
 repeat' first
  |(simp at h;done)
  |(simp only [se]at h;subst h;exact fy _)
  |split at h
theorem AQ(m m' :Machine)(ops:Array MemOp)(h:askOn P m= .machine (.next m') ops):m.world.drawn≤m'.world.drawn:=by
 unfold askOn at h
 simp only []at h
 repeat' first
  |(simp at h;done)
  |(simp only [Move.machine.injEq]at h;exact io (ci (by assumption)) (Ad _ _ _ h.1))
  |(simp only [Move.machine.injEq,se]at h;obtain⟨rfl,_⟩:=h;(try simp only [Machine.advanceTo]);exact ci (by assumption))
  |(simp only [Move.machine.injEq,se]at h;obtain⟨rfl,_⟩:=h;(try simp only [Machine.advanceTo]);exact io (ci (by assumption)) (ci (by assumption)))
  |split at h
theorem xG{gs:Array Goroutine}{rest:Rest}{t:Nat}{x:α}(h:s.run P (Machine.advanceTo {world:=w,gs:=gs,rest:=rest} t).world= .ok x w'):w.drawn≤w'.drawn:=by
 have:=ci h
 simpa only [Machine.advanceTo] using this
theorem zq(m m' :Machine)(i:Nat)(h:askOn P m= .goroutine m' i):m.world.drawn≤m'.world.drawn:=by
  unfold askOn at h
  simp only []at h
  repeat' first
    |(simp at h;done)
    |(simp only [Move.goroutine.injEq]at h;rw [←h.1];(try simp only [Machine.advanceTo]);first
        |exact ci (by assumption)
        |exact io (ci (by assumption)) (ci (by assumption))
        |exact io (ci (by assumption)) (io (ci (by assumption)) (ci (by assumption)))
        |exact io (ci (by assumption)) (io (ci (by assumption)) (io (ci (by assumption)) (ci (by assumption))))
        |exact io (ci (by assumption)) (io (ci (by assumption)) (xG (by assumption)))
        |exact io (ci (by assumption)) (io (ci (by assumption)) (io (xG (by assumption)) (ci (by assumption)))))
    |split at h
theorem wu(m:Machine):(∃m₂:Machine,m.world.drawn≤m₂.world.drawn∧ask P m=askOn P m₂)∨(∃o w,ask P m= .machine (.ended o w) #[]):=by
 unfold ask
 by_cases hw:m.rest.watch=true
 ·rw [cU hw]
  cases hc:(choose (.extern "collector.look" 2)).run P m.world with
  |halt h w=>exact .inr ⟨_,_,rfl⟩
  |ok k world=>
   have e1:=ci hc
   rcases k with _|_|k
   ·exact .inl ⟨{m with world},e1,rfl⟩
   ·show(∃m₂:Machine,m.world.drawn≤m₂.world.drawn∧(match Go.look P m.gs m.rest world with| .next m=>askOn P m|e=>Move.machine e)=askOn P m₂)∨
     (∃o w,(match Go.look P m.gs m.rest world with| .next m=>askOn P m|e=>Move.machine e)= .machine (.ended o w) #[])
    cases hl:Go.look P m.gs m.rest world with
    |next m₂=>exact .inl ⟨m₂,io e1 (wa _ _ _ _ hl),rfl⟩
    |ended o w=>exact .inr ⟨o,w,rfl⟩
   ·exact .inl ⟨{m with world},e1,rfl⟩
 ·simp only [hw,De,ta]
  exact .inl ⟨m,fy _,rfl⟩
theorem BR(m m' :Machine)(ops:Array MemOp)(h:move P m= .machine (.next m') ops):m.world.drawn≤m'.world.drawn:=by
 have ha: ∀m1:Machine,m1.world.drawn=m.world.drawn→ask P m1= .machine (.next m') ops→m.world.drawn≤m'.world.drawn:=fun m1 e h=>by
  rcases wu (P:=P) m1 with⟨m₂,hs,he⟩|⟨o,w,he⟩
  ·rw [he]at h;rw [←e];exact io hs (AQ m₂ m' ops h)
  ·rw [he]at h;simp at h
 unfold move at h
 repeat' first
  |(simp at h;done)
  |(refine ha _ ?_ h;rfl)
  |split at h
theorem Ay(m m' :Machine)(i:Nat)(h:move P m= .goroutine m' i):m.world.drawn≤m'.world.drawn:=by
 have ha: ∀m1:Machine,m1.world.drawn=m.world.drawn→ask P m1= .goroutine m' i→m.world.drawn≤m'.world.drawn:=fun m1 e h=>by
  rcases wu (P:=P) m1 with⟨m₂,hs,he⟩|⟨o,w,he⟩
  ·rw [he]at h;rw [←e];exact io hs (zq m₂ m' i h)
  ·rw [he]at h;cases h
 unfold move at h
 repeat' first
  |(simp at h;done)
  |(refine ha _ ?_ h;rfl)
  |(simp only [Move.goroutine.injEq]at h;rw [←h.1];exact fy _)
  |split at h
theorem Bv(h:step P m= .next m'):m.world.drawn≤m'.world.drawn:=by
 simp only [step,stepT]at h
 split at h
 ·rename_i m₁ i hm
  exact io (Ay m m₁ i hm) (BF m₁ m' i _ h)
 ·rename_i s ops hm
  simp only []at h
  subst h
  exact BR m m' ops hm
theorem uh(h:Steps P m m'):m.world.drawn≤m'.world.drawn:=by
 obtain⟨n,hn⟩:=h
 induction n generalizing m with
 |zero=>simp only [runN,se]at hn;rw [hn];exact fy _
 |succ n ih=>
  simp only [runN]at hn
  split at hn
  ·rename_i m1 h1
   exact io (Bv h1) (ih hn)
  ·rename_i hx
   exact absurd hn (hx _)
theorem AP{args:Array Value}(h:Calls P f args w R)(ho: ∀w',¬R .outgrown w'):Calls P f args w fun e w' =>R e w' ∧w.drawn≤w'.drawn:=fun cs=>by
 obtain⟨e,w',fr,hr,hc,h2⟩:=h cs
 refine⟨e,w',fr,⟨hr,?_⟩,hc,h2⟩
 cases e with
 |outgrown=>exact absurd hr (ho w')
 |returned v=>exact uh (show Steps P _ _ from hc)
 |panicked c=>exact uh (show Steps P _ _ from hc)
end

def fw(r:Option Nat):Fence:={fn:=fun _=>True,depth:=none,alive:=false,round:=r}
theorem fM{r:Option Nat}{n:Nat}{P:Program}{args:Array Value}:CallsIn (fw r) n P f args w R↔Calls P f args w R:=callsIn_wide
theorem AE{r:Option Nat}{n:Nat}:(fw r).depth.isSome=true→1≤n:=fun h=>by cases h
structure En where
 P:Program
 N:Fr
 B:Nat→Prop
 w0:World
 S0:SH
 r:Option Nat
def En.base(E:En):Nat:=E.w0.heap.size

def ID(P:Program)(o:Oper)(a:Act)(K:Act→World→Prop):Result Next→Prop
 | .ok (.value v) w' =>K (a.put o.dst v) w'
 | .ok .skip w' =>K (a.put o.dst undef) w'
 | .ok (.enter f args) w' =>Calls P f args w' fun e w'' => ∃v,e= .returned v∧K (a.put o.dst v) w''
 | .ok (.round l f tmps assign body) w' =>RoundIn (fw none) 0 P l f tmps assign body w' fun e w'' => ∃v,e= .returned v∧K (a.put o.dst v) w''
 |_=>False
def Ap(P:Program)(o:Oper)(a:Act)(w:World)(K:Act→World→Prop):Prop:=(∀c,o.op≠ .defer c)∧ID P o a K ((execOp a.eval o).run P w)
theorem BG{r:Option Nat}{n:Nat}{P:Program}{l:Nat}{tmps:Array Value}{assign body:Code}(h:RoundIn (fw none) 0 P l f tmps assign body w R):RoundIn (fw r) n P l f tmps assign body w R:=
 ⟨trivial,fun c cs _=>h.2 c cs (fun _ hd=>by cases hd)⟩
variable{K K' :Act→World→Prop}
theorem E4{P:Program}(hK: ∀a w,K a w→K' a w){r:Result Next}(h:ID P o a K r):ID P o a K' r:=by
 cases r with
 |ok n w=>
  cases n<;>simp only [ID]at h ⊢
  case value=>exact hK _ _ h
  case skip=>exact hK _ _ h
  case enter f args=>exact h.mono fun e w' ⟨v,he,hk⟩=>⟨v,he,hK _ _ hk⟩
  case round l f tmps assign body=>exact h.mono fun e w' ⟨v,he,hk⟩=>⟨v,he,hK _ _ hk⟩
 |halt x w=>simp only [ID]at h
theorem jv{P:Program}(hK: ∀a w,K a w→K' a w)(h:Ap P o a w K):Ap P o a w K' :=⟨h.1,E4 hK h.2⟩
variable{Q:Exit→Act→World→Prop}{β:Type}{res:β→Ty}
theorem fZ{P:Program}{r:Option Nat}(hK: ∀a w,K a w→K' a w)(h:Ap P o a w K):o.wpIn (fw r) 0 P a w K' Q:=by
 obtain⟨hd,h⟩:=h
 refine⟨fun _ _=>trivial,?_⟩
 rw [Oper.semAt_eq _ _ _ hd]
 generalize (execOp a.eval o).run P w=res at h
 cases res with
 |ok n w=>
  cases n<;>simp only [ID]at h<;>simp only [Oper.uponIn]
  case value=>exact hK _ _ h
  case skip=>exact hK _ _ h
  case enter f args=>exact⟨AE,fM.2 (h.mono fun e w' ⟨v,he,hk⟩=>by subst he;exact hK _ _ hk)⟩
  case round l f tmps assign body=>exact⟨AE,(BG h).mono fun e w' ⟨v,he,hk⟩=>by subst he;exact hK _ _ hk⟩
 |halt x w=>simp only [ID]at h

def bH(E:En)(O:List OE)(G:gT)(o:Oper)(t:Ty):Prop:=
 ∀a w S,eM w S→ck E.base E.B w S O→cJ E.N S a G→
  Ap E.P o a w (fun a' w' => ∃v S',a' =a.put o.dst v∧dQ kq w S w' S' ∧eM w' S' ∧t.p S' v)
structure St(E:En)(O:List OE)(G:gT)(a:Act)(w:World)(S:SH):Prop where
 ext:dQ E.B E.w0 E.S0 w S
 sat:eM w S
 own:ck E.base E.B w S O
 facts:cJ E.N S a G
def RG(E:En)(ops:Array Oper)(Q:Exit→Act→World→Prop)(l:List Oper)(O:List OE)(G:gT):Prop:= ∀a w S,St E O G a w S→wpListIn (fw E.r) 0 E.P ops Q l a w
def CG(E:En)(Q:Exit→Act→World→Prop)(c:Code)(O:List OE)(G:gT):Prop:= ∀a w S,St E O G a w S→c.wpIn (fw E.r) 0 E.P Q a w
def AT(E:En)(Q:Exit→Act→World→Prop)(e:Exit)(O:List OE)(G:gT):Prop:= ∀a w S,St E O G a w S→Q e a w

variable{after:Array Edge}{fn:Func}{pos:String}{ts:List Ty}{y:Operand}
section
variable{E:En}{G' :gT}{l:List Oper}
theorem St.step(h:St E O G a w S)(k:dQ kq w S w' S')(hs:eM w' S')(hd:Nat.blt d E.N.n=true)(hv:t.p S' v):
  St E O ((d,t)::G) (a.put (some d) v) w' S' :=
 ⟨h.ext.step0 k,hs,h.own.ext0 k,(h.facts.mono k.keep).put hd hv⟩
theorem St.sub(h:St E O G a w S)(k:Bu G' G):St E O G' a w S:=⟨h.ext,h.sat,h.own,h.facts.sub (xk k)⟩
theorem RG.of(hg:o.guard=none)(h: ∀a w S,St E O G a w S→Ap E.P o a w (fun a' w' =>wpListIn (fw E.r) 0 E.P ops Q l a' w')):RG E ops Q (o::l) O G:=fun a w S st=>
 wpListIn_plain hg fun _ hK=>fZ hK (h a w S st)

theorem nK{op:Op}{ty:TypeId}(h:bH E O G ⟨some d,op,ty,pos,after,none⟩ t)(hd:Nat.blt d E.N.n=true)(k:RG E ops Q l O ((d,t)::G)):
  RG E ops Q (⟨some d,op,ty,pos,after,none⟩::l) O G:= .of rfl fun a w S st=>
 jv (fun a' w' ⟨_,_,ha,he,hs,hv⟩=>by subst ha;exact k _ _ _ (st.step he hs hd hv)) (h a w S st.sat st.own st.facts)
theorem aQ(h:AT E Q .normal O G):RG E ops Q [] O G:=fun a w S st=>h a w S st
theorem am{id:Nat}{l:List Oper}(h:RG E l.toArray Q l O G):CG E Q (.region id l.toArray false) O G:=fun a w S st=>wpIn_region_lit (h a w S st)
theorem af{x y:Code}(h:CG E (Exit.then (y.wpIn (fw E.r) 0 E.P Q) Q) x O G):CG E Q (.seq x y) O G:=fun a w S st=>wpIn_seq (h a w S st)
theorem av{y:Code}(h:CG E Q y O G):AT E (Exit.then (y.wpIn (fw E.r) 0 E.P Q) Q) .normal O G:=h
theorem bE(h:AT E Q .normal O G):CG E Q .skip O G:=fun a w S st=>wpIn_skip (h a w S st)
theorem bk{id:Nat}(h:AT E Q (.exit id) O G):CG E Q (.exit id) O G:=fun a w S st=>wpIn_exit (h a w S st)
theorem aq(h:AT E Q .ret O G):CG E Q .ret O G:=fun a w S st=>wpIn_ret (h a w S st)
theorem wE(h:CG E Q c O G')(k:Bu G' G):CG E Q c O G:=fun a w S st=>h a w S (st.sub k)
theorem cd{e:Exit}(h:AT E Q e O G')(k:Bu G' G):AT E Q e O G:=fun a w S st=>h a w S (st.sub k)
theorem kT{c:Operand}{x y:Code}(hb:aG E.N G c (tD rB b))(hx:b=true→CG E Q x O G)(hy:b=false→CG E Q y O G):CG E Q (.cond c x y) O G:=fun a w S st=>by
 have hv:a.eval c= .bool b:=fh.1 (hb S a st.facts)
 refine wpIn_cond hv ?_
 cases b with
 |true=>exact hx rfl a w S st
 |false=>exact hy rfl a w S st
theorem ax{id:Nat}(h:CG E (Exit.inBlock id Q) c O G):CG E Q (.block id c) O G:=fun a w S st=>wpIn_block (h a w S st)
def tI(r:Option Nat)(P:Program)(c:Code)(Q:Exit→Act→World→Prop)(a:Act)(w:World):Prop:=
 ∀(b:Frame) (k:List Item) (cs:List Frame),b.roundOf=r→ ∃e a' w',Q e a' w' ∧ArrivesIn (Machine.fenced P (fw r)) P (lone (b.atR a (.code c:: .inLoop c::k)) cs w) b k cs e a' w'
theorem CN{r:Option Nat}{n:Nat}:(fw r).room n:=fun _ hd=>by cases hd
theorem yx{r:Option Nat}{P:Program}{Q:Exit→Act→World→Prop}(h:tI r P c Q a w):(Code.loop c).wpIn (fw r) 0 P Q a w:=fun b k cs hro hb hr=>
 let⟨e,a',w',hq,harr⟩:=h b k cs hro
 ⟨e,a',w',hq,.of_steps (.one (fenced_calm hb hr rfl) stepR_loop) harr⟩
theorem wZ{r:Option Nat}{P:Program}{Q:Exit→Act→World→Prop}(h:c.wpIn (fw r) 0 P (Exit.then (tI r P c Q) Q) a w):tI r P c Q a w:=by
 intro b k cs hro
 obtain⟨e,a₁,w₁,hq,harr⟩:=h b (.inLoop c::k) cs hro trivial CN
 cases e with
 |normal=>
  obtain⟨e₂,a₂,w₂,hq₂,harr₂⟩:=hq b k cs hro
  exact⟨e₂,a₂,w₂,hq₂,.of_steps (StepsIn.trans harr (.one (fenced_calm (n:=0) (F:=fw r) trivial CN rfl) stepR_inLoop)) harr₂⟩
 |exit id=>exact⟨_,a₁,w₁,hq,.pass (x:= .inLoop c) rfl (fun _ _=> .inl (by simp)) harr⟩
 |goto l=>exact⟨_,a₁,w₁,hq,.pass (x:= .inLoop c) rfl (fun _ _=> .inl (by simp)) harr⟩
 |ret=>exact⟨_,a₁,w₁,hq,.pass (x:= .inLoop c) rfl (fun _ _=> .inl (by simp)) harr⟩
 |panic ch=>exact⟨_,a₁,w₁,hq,.pass (x:= .inLoop c) rfl (fun _ _=> .inl (by simp)) harr⟩
 |outgrown=>exact⟨_,a₁,w₁,hq,.pass (x:= .inLoop c) rfl (fun _ _=> .inl (by simp)) harr⟩
def LG(E:En)(Q:Exit→Act→World→Prop)(c:Code)(O:List OE)(G:gT):Prop:= ∀a w S,St E O G a w S→tI E.r E.P c Q a w
theorem bF(h:LG E Q c O G):CG E Q (.loop c) O G:=fun a w S st=>yx (h a w S st)
theorem aA(h:CG E (Exit.then (tI E.r E.P c Q) Q) c O G):LG E Q c O G:=fun a w S st=>wZ (h a w S st)
theorem aS(h:LG E Q c O G')(k:Bu G' G):LG E Q c O G:=fun a w S st=>h a w S (st.sub k)
theorem be(h:LG E Q c O G):AT E (Exit.then (tI E.r E.P c Q) Q) .normal O G:=h
theorem ac{id:Nat}(h:AT E Q (.exit id) O G):AT E (Exit.then K Q) (.exit id) O G:=h
theorem M(h:AT E Q .ret O G):AT E (Exit.then K Q) .ret O G:=h
theorem aD{id:Nat}(h:AT E Q .ret O G):AT E (Exit.inBlock id Q) .ret O G:=h
theorem an{id:Nat}(h:AT E Q .normal O G):AT E (Exit.inBlock id Q) .normal O G:=h
theorem aM{id:Nat}(h:AT E Q .normal O G):AT E (Exit.inBlock id Q) (.exit id) O G:=fun a w S st=>by
 simp only [Exit.inBlock,if_true];exact h a w S st
theorem bY{id id' :Nat}(hne:Nat.beq id' id=false)(h:AT E Q (.exit id') O G):AT E (Exit.inBlock id Q) (.exit id') O G:=fun a w S st=>by
 have:id' ≠id:=fun e=>by subst e;simp at hne
 simp only [Exit.inBlock,this,ta];exact h a w S st

def pJ(S:SH):List Ty→List Value→Prop
 |[],[]=>True
 |t::ts,v::vs=>t.p S v∧pJ S ts vs
 |_,_=>False
theorem pJ.mono(h:kY S S'): ∀{ts:List Ty} {vs:List Value},pJ S ts vs→pJ S' ts vs
 |[],[],_=>trivial
 |t::_,_::_,⟨h1,h2⟩=>⟨t.mono h h1,pJ.mono h h2⟩
theorem pJ.length: ∀{ts:List Ty} {vs:List Value},pJ S ts vs→vs.length=ts.length
 |[],[],_=>rfl
 |_::_,_::_,⟨_,h2⟩=>by simp [pJ.length h2]
def bn(P:Program)(f:FuncId)(ts:List Ty)(t:Ty):Prop:=
 ∀w S vs,eM w S→pJ S ts vs→Calls P f vs.toArray w fun e w' => ∃v S',e= .returned v∧dQ kq w S w' S' ∧eM w' S' ∧t.p S' v
def AL(E:En)(t:Ty):Ending→World→Prop:=fun e w' => ∃v S',e= .returned v∧dQ E.B E.w0 E.S0 w' S' ∧eM w' S' ∧t.p S' v
def nz(k:Nat):List Ty→gT
 |[]=>[]
 |t::ts=>(k,t)::nz (k+1) ts
theorem v7: ∀(ts:List Ty) (k j:Nat) (t:Ty),look (nz k ts) j=some t→ ∃i,j=k+i∧ts[i]? =some t
 |[],_,_,_,h=>by simp [nz,look]at h
 |u::ts,k,j,t,h=>by
  unfold nz look at h
  by_cases hb:Nat.beq k j=true
  ·rw [hb]at h
   exact⟨0,by rw [q8 hb];rfl,by simpa using h⟩
  ·rw [rs]at hb
   rw [hb]at h
   obtain⟨i,h1,h2⟩:=v7 ts (k+1) j t h
   exact⟨i+1,by omega,by simpa using h2⟩
theorem pJ.at_: ∀{ts:List Ty} {vs:List Value} (_:pJ S ts vs) (i:Nat) (t:Ty),ts[i]? =some t→ ∃v,vs[i]? =some v∧t.p S v
 |_::_,v::_,⟨h1,_⟩,0,t,h=>⟨v,rfl,by simp at h;rw [←h];exact h1⟩
 |_::ts,_::vs,⟨_,h2⟩,i+1,t,h=>by simpa using pJ.at_ h2 i t (by simpa using h)
theorem jj{vs:List Value}(h:pJ S ts vs)(n:Nat)(hn:ts.length≤n):
  cJ ⟨n,[]⟩ S {tmps:=vs.toArray++Array.replicate (n-vs.toArray.size) undef,defers:=[]} (nz 0 ts):=by
 have hl:=h.length
 refine⟨by simp;omega,rfl,fun j t hj=>?_⟩
 obtain⟨i,e,hi⟩:=v7 ts 0 j t hj
 have e' :j=i:=by omega
 subst e'
 obtain⟨v,hv,ht⟩:=h.at_ j t hi
 have hlt:j<vs.length:=(md.1 hv).1
 have:(vs.toArray++Array.replicate (n-vs.toArray.size) undef).getD j undef=v:=by
  rw [yq,Array.getElem?_append_left (by simpa using hlt)]
  simp [hv]
 rw [this];exact ht
theorem zt{P:Program}(hf:P.funcs[f]? =some fn)(hb:fn.body=some c)(hn:ts.length≤fn.ntmps)(h: ∀w0 S0,CG ⟨P,⟨fn.ntmps,[]⟩,kq,w0,S0,none⟩ (bodyPost P fn (AL ⟨P,⟨fn.ntmps,[]⟩,kq,w0,S0,none⟩ t)) c [] (nz 0 ts)):bn P f ts t:=by
 intro w S vs hs hv
 exact fM.1 (vw (F:=fw none) (n:=0) hf hb trivial (h w S _ w S ⟨dE _ _ _,hs,trivial,jj hv _ hn⟩))
theorem ir(P:Program)(fn:Func)(k:Nat)(h:fn.results= #[.tmp k])(tmps:Array Value)(w:World):(results fn tmps).run P w= .ok (tmps.getD k undef) w:=by
 simp [results,h]
theorem aW{P:Program}{N:Nat}{B:Nat→Prop}{w0:World}{S0:SH}(hr:fn.results= #[.tmp k])(hk:look G k=some t):
  AT ⟨P,⟨N,[]⟩,B,w0,S0,none⟩ (bodyPost P fn (AL ⟨P,⟨N,[]⟩,B,w0,S0,none⟩ t)) .ret O G:=fun _ _ S st=>
 ⟨st.facts.defers,_,ir P fn k hr _ _,_,S,rfl,st.ext,st.sat,st.facts.at_ k t hk⟩
def tT(ts:List Ty):Ty where
 p:=fun S v=> ∃vs,v= .tuple vs.toArray∧pJ S ts vs
 mono:=fun h k=>by obtain⟨vs,e,k⟩:=k;exact⟨vs,e,pJ.mono h k⟩
theorem uX(P:Program)(fn:Func)(j k:Nat)(h:fn.results= #[.tmp j,.tmp k])(tmps:Array Value)(w:World):(results fn tmps).run P w= .ok (.tuple #[tmps.getD j undef,tmps.getD k undef]) w:=by
 simp [results,h]
theorem cv{P:Program}{N:Nat}{B:Nat→Prop}{w0:World}{S0:SH}{u:Ty}(hr:fn.results= #[.tmp j,.tmp k])(hj:look G j=some t)(hk:look G k=some u):
  AT ⟨P,⟨N,[]⟩,B,w0,S0,none⟩ (bodyPost P fn (AL ⟨P,⟨N,[]⟩,B,w0,S0,none⟩ (tT [t,u]))) .ret O G:=fun _ _ S st=>
 ⟨st.facts.defers,_,uX P fn j k hr _ _,_,S,rfl,st.ext,st.sat,[_,_],rfl,st.facts.at_ j t hj,st.facts.at_ k u hk,trivial⟩
theorem sn(P:Program)(fn:Func)(i j k:Nat)(h:fn.results= #[.tmp i,.tmp j,.tmp k])(tmps:Array Value)(w:World):(results fn tmps).run P w= .ok (.tuple #[tmps.getD i undef,tmps.getD j undef,tmps.getD k undef]) w:=by
 simp [results,h]
theorem vm{P:Program}{N:Nat}{B:Nat→Prop}{w0:World}{S0:SH}{s u:Ty}(hr:fn.results= #[.tmp i,.tmp j,.tmp k])(hi:look G i=some s)(hj:look G j=some t)(hk:look G k=some u):
  AT ⟨P,⟨N,[]⟩,B,w0,S0,none⟩ (bodyPost P fn (AL ⟨P,⟨N,[]⟩,B,w0,S0,none⟩ (tT [s,t,u]))) .ret O G:=fun _ _ S st=>
 ⟨st.facts.defers,_,sn P fn i j k hr _ _,_,S,rfl,st.ext,st.sat,[_,_,_],rfl,st.facts.at_ i s hi,st.facts.at_ j t hj,st.facts.at_ k u hk,trivial⟩
theorem oh(P:Program)(fn:Func)(h:fn.results= #[])(tmps:Array Value)(w:World):(results fn tmps).run P w= .ok (.tuple #[]) w:=by
 simp [results,h]
end

variable{dst:Option Tmp}{xt yt:TypeId}
section
variable{E:En}{ty:TypeId}
theorem bH.of_run(h: ∀a w S,eM w S→ck E.base E.B w S O→cJ E.N S a G→
  ∃v w' S',(execOp a.eval o).run E.P w= .ok (.value v) w' ∧dQ kq w S w' S' ∧eM w' S' ∧t.p S' v)(hd: ∀c,o.op≠ .defer c:=by intro c h;cases h):bH E O G o t:=fun a w S hs ho hf=>by
 obtain⟨v,w',S',hr,he,hs',hv⟩:=h a w S hs ho hf
 refine⟨hd,?_⟩
 rw [hr]
 exact⟨v,S',rfl,he,hs',hv⟩
theorem bH.of_pure(h: ∀a w S,eM w S→ck E.base E.B w S O→cJ E.N S a G→ ∃v,(execOp a.eval o).run E.P w= .ok (.value v) w∧t.p S v)(hd: ∀c,o.op≠ .defer c:=by intro c h;cases h):bH E O G o t:=
 .of_run (fun a w S hs ho hf=>let⟨v,hr,hv⟩:=h a w S hs ho hf;⟨v,w,S,hr,dE _ _ _,hs,hv⟩) hd

theorem bA(hx:aG E.N G x t):bH E O G ⟨dst,.move x,ty,pos,after,g⟩ t:=
 .of_pure fun a _ S _ _ hf=>⟨a.eval x,rfl,hx S a hf⟩
theorem aP(hx:aG E.N G x t):bH E O G ⟨dst,.assign x,ty,pos,after,g⟩ t:=
 .of_pure fun a _ S _ _ hf=>⟨a.eval x,rfl,hx S a hf⟩
theorem qL{c:Operand}(hc:aG E.N G c (tD rB b))(hx:b=true→aG E.N G x t)(hy:b=false→aG E.N G y t):bH E O G ⟨dst,.pick c x y,ty,pos,after,g⟩ t:=
 .of_pure fun a _ S _ _ hf=>by
  have h1:a.eval c= .bool b:=fh.1 (hc S a hf)
  refine⟨if b then a.eval x else a.eval y,by simp [execOp,h1,asBool],?_⟩
  cases b with
  |true=>exact hx rfl S a hf
  |false=>exact hy rfl S a hf

section
variable{k:IntKind}{m n:Int}
theorem AI{P:Program}{op:BinOp}{xt:TypeId}{x y:Operand}{k k' :IntKind}{m n:Int}:(eqGuard op xt x y (.int k m) (.int k' n)).run P w= .ok () w:=by
 unfold eqGuard
 cases op<;>rfl
theorem o4{op:BinOp}(hx:aG E.N G x (tD (rI k) m))(hy:aG E.N G y (tD (rI k) n))(hv: ∀P w,(binOp op xt (.int k m) (.int k n)).run P w= .ok v w)(ht: ∀S,t.p S v):
  bH E O G ⟨dst,.binOp op xt x y yt,ty,pos,after,g⟩ t:=
 .of_pure fun a w S _ _ hf=>by
  have h1:a.eval x= .int k m:=cQ.1 (hx S a hf)
  have h2:a.eval y= .int k n:=cQ.1 (hy S a hf)
  refine⟨v,?_,ht S⟩
  simp [execOp,h1,h2,AI,hv]
theorem jf(hx:aG E.N G x (tD (rI k) m))(hy:aG E.N G y (tD (rI k) n)):bH E O G ⟨dst,.binOp .add xt x y yt,ty,pos,after,g⟩ (tD (rI k) (k.wrap (m+n))):=
 o4 hx hy (fun _ _=>by simp [binOp,Op.intArith]) (fun _=>cQ.2 rfl)
theorem eV(hx:aG E.N G x (tD (rI k) m))(hy:aG E.N G y (tD (rI k) n)):bH E O G ⟨dst,.binOp .sub xt x y yt,ty,pos,after,g⟩ (tD (rI k) (k.wrap (m-n))):=
 o4 hx hy (fun _ _=>by simp [binOp,Op.intArith]) (fun _=>cQ.2 rfl)
theorem IE(hx:aG E.N G x (tD (rI k) m))(hy:aG E.N G y (tD (rI k) n))(h0:n≠0):bH E O G ⟨dst,.binOp .rem xt x y yt,ty,pos,after,g⟩ (tD (rI k) (m.tmod n)):=
 o4 hx hy (fun _ _=>by simp [binOp,Op.intDiv,h0]) (fun _=>cQ.2 rfl)
theorem eW(hx:aG E.N G x (tD (rI k) m))(hy:aG E.N G y (tD (rI k) n)):bH E O G ⟨dst,.binOp .lss xt x y yt,ty,pos,after,g⟩ (tD rB (decide (m<n))):=
 o4 hx hy (fun _ _=>by simp [binOp,Op.intCmp]) (fun _=>fh.2 rfl)
theorem je(hx:aG E.N G x (tD (rI k) m))(hy:aG E.N G y (tD (rI k) n)):bH E O G ⟨dst,.binOp .leq xt x y yt,ty,pos,after,g⟩ (tD rB (decide (m≤n))):=
 o4 hx hy (fun _ _=>by simp [binOp,Op.intCmp]) (fun _=>fh.2 rfl)
theorem eX(hx:aG E.N G x (tD (rI k) m))(hy:aG E.N G y (tD (rI k) n)):bH E O G ⟨dst,.binOp .gtr xt x y yt,ty,pos,after,g⟩ (tD rB (decide (n<m))):=
 o4 hx hy (fun _ _=>by simp [binOp,Op.intCmp]) (fun _=>fh.2 rfl)
theorem dN(hx:aG E.N G x (tD (rI k) m))(hy:aG E.N G y (tD (rI k) n)):bH E O G ⟨dst,.binOp .geq xt x y yt,ty,pos,after,g⟩ (tD rB (decide (n≤m))):=
 o4 hx hy (fun _ _=>by simp [binOp,Op.intCmp]) (fun _=>fh.2 rfl)
theorem cj(hx:aG E.N G x (tD (rI k) m))(hy:aG E.N G y (tD (rI k) n)):bH E O G ⟨dst,.binOp .eql xt x y yt,ty,pos,after,g⟩ (tD rB (m==n)):=
 o4 hx hy (fun _ _=>by simp [binOp,Op.intCmp]) (fun _=>fh.2 rfl)
theorem dq(hx:aG E.N G x (tD (rI k) m))(hy:aG E.N G y (tD (rI k) n)):bH E O G ⟨dst,.binOp .neq xt x y yt,ty,pos,after,g⟩ (tD rB (m !=n)):=
 o4 hx hy (fun _ _=>by simp [binOp,Op.intCmp]) (fun _=>fh.2 rfl)
theorem IF(hx:aG E.N G x (tD (rI k) m)):bH E O G ⟨dst,.unOp .neg xt x,ty,pos,after,g⟩ (tD (rI k) (k.wrap (0-m))):=
 .of_pure fun a w S _ _ hf=>by
  have h1:a.eval x= .int k m:=cQ.1 (hx S a hf)
  exact⟨.int k (k.wrap (0-m)),by simp [execOp,h1,Op.unary,Op.intArith],cQ.2 rfl⟩
theorem d8(hx:aG E.N G x (tD rB b)):bH E O G ⟨dst,.unOp .not xt x,ty,pos,after,g⟩ (tD rB (!b)):=
 .of_pure fun a w S _ _ hf=>by
  have h1:a.eval x= .bool b:=fh.1 (hx S a hf)
  exact⟨.bool (!b),by simp [execOp,h1,Op.unary],fh.2 rfl⟩
theorem Gw{st dt:TypeId}{k' :IntKind}{d:TypeDesc}(hs:E.P.underlying st=some d)(hd:E.P.underlying dt=some (.int k'))(hx:aG E.N G x (tD (rI k) m)):
  bH E O G ⟨dst,.convert st dt x,ty,pos,after,g⟩ (tD (rI k') (k'.wrap m)):=
 .of_pure fun a w S _ _ hf=>by
  have h1:a.eval x= .int k m:=cQ.1 (hx S a hf)
  refine⟨.int k' (k'.wrap m),?_,cQ.2 rfl⟩
  simp only [execOp,h1,convert,lO,lN hs,lN hd,mu]
  cases d<;>simp [Conv.intToInt]
end

theorem yN{P:Program}{t:TypeId}{x y:Value}(hb: ∀d,(Op.equalIn (d+1) t x y).run P w= .ok b w):(Op.equal t x y).run P w= .ok b w:=hb 9999
section
theorem E5{op:BinOp}{s u:jn}(hx:aG E.N G x (tD rS s))(hy:aG E.N G y (tD rS u))(hv: ∀P w,(Op.stringOp op ⟨s.toArray⟩ ⟨u.toArray⟩).run P w= .ok (.bool b) w)(hg: ∀P w,(eqGuard op xt x y (.string ⟨s.toArray⟩) (.string ⟨u.toArray⟩)).run P w= .ok () w)(hb: ∀P w,(binOp op xt (.string ⟨s.toArray⟩) (.string ⟨u.toArray⟩)).run P w=(Op.stringOp op ⟨s.toArray⟩ ⟨u.toArray⟩).run P w):
  bH E O G ⟨dst,.binOp op xt x y yt,ty,pos,after,g⟩ (tD rB b):=
 .of_pure fun a w S _ _ hf=>by
  have h1:a.eval x= .string ⟨s.toArray⟩:=pO.1 (hx S a hf)
  have h2:a.eval y= .string ⟨u.toArray⟩:=pO.1 (hy S a hf)
  refine⟨.bool b,?_,fh.2 rfl⟩
  simp [execOp,h1,h2,hg,hb,hv]
theorem vf{s u:jn}(hx:aG E.N G x (tD rS s))(hy:aG E.N G y (tD rS u)):bH E O G ⟨dst,.binOp .eql xt x y yt,ty,pos,after,g⟩ (tD rB (s==u)):=
 E5 hx hy (fun _ _=>by simp [Op.stringOp]) (fun _ _=>rfl) (fun _ _=>rfl)
theorem Gu{s u:jn}(hx:aG E.N G x (tD rS s))(hy:aG E.N G y (tD rS u)):bH E O G ⟨dst,.binOp .neq xt x y yt,ty,pos,after,g⟩ (tD rB (!(s==u))):=
 E5 hx hy (fun _ _=>by simp [Op.stringOp]) (fun _ _=>rfl) (fun _ _=>rfl)
end
end

def Fg:TypeDesc→Bool
 | .struct _| .array _ _=>true
 |_=>false
structure TI(P:Program)(T:TypeId)(sz bytes:Nat)(agg:Bool)(z:List Value):Prop where
 info:(P.info? T).map (fun i=>(i.zero.map (·.cells.toList),i.size,i.bytes))=some (some z,sz,bytes)
 ag:(P.underlying T).map Fg=some agg
variable{T:TypeId}{z:List Value}
section
variable{P:Program}{sz:Nat}{agg:Bool}
theorem TI.get(h:TI P T sz bytes agg z): ∃i zv,P.info? T=some i∧i.size=sz∧i.bytes=bytes∧i.zero=some zv∧zv.cells=z.toArray:=by
 have:=h.info
 cases hi:P.info? T with
 |none=>rw [hi]at this;simp at this
 |some i=>
  rw [hi]at this
  simp only [Option.map_some,zJ,Prod.mk.injEq,sf]at this
  obtain⟨⟨zv,h1,h2⟩,h3,h4⟩:=this
  exact⟨i,zv,rfl,h3,h4,h1,by rw [←h2]⟩
theorem TI.sizeOf(h:TI P T sz bytes agg z)(w:World):(Go.sizeOf T).run P w= .ok sz w:=by
 obtain⟨i,zv,h1,h2,_⟩:=h.get
 simp [Go.sizeOf,typeInfo,h1,h2]
theorem TI.isAgg(h:TI P T sz bytes agg z)(w:World):(Go.isAgg T).run P w= .ok agg w:=by
 have:=h.ag
 cases hi:P.underlying T with
 |none=>rw [hi]at this;simp at this
 |some d=>
  rw [hi]at this
  simp only [Option.map_some,zJ]at this
  simp only [Go.isAgg,lO,lN hi,mu]
  rw [←this]
  cases d<;>simp [Fg]
theorem TI.zero(h:TI P T sz bytes agg z)(w:World): ∃zv,(zeroValue T).run P w= .ok zv w∧zv.cells=z.toArray:=by
 obtain⟨i,zv,h1,_,_,h4,h5⟩:=h.get
 exact⟨zv,by simp [zeroValue,typeInfo,h1,h4],h5⟩
end

theorem eL(b off i:Nat):(⟨b,off,none⟩:Addr).add i=⟨b,off+i,none⟩:=by
 unfold Addr.add
 split
 ·simp_all
 ·rfl
theorem sW{b:Nat}{c:Array Value}(h:w.heap[b]? =some (.cells c T fr))(i:Nat):w.cell? ⟨b,i,none⟩=c[i]? :=by
 simp [World.cell?,h]
theorem tu{P:Program}{b n:Nat}{c:Array Value}(h:w.heap[b]? =some (.cells c T fr))(hcs:(c.toList.drop off).take n=cs)(hl:cs.length=n):
  (loadCells ⟨b,off,none⟩ n).run P w= .ok cs.toArray w:=by
 rw [←hl]
 refine run_loadCells_list w ⟨b,off,none⟩ cs fun j v hv=>?_
 rw [eL,sW h]
 have hj:j<cs.length:=(md.1 hv).1
 rw [←hcs,wL (by omega),uR]at hv
 simpa using hv
theorem fF{P:Program}{b:Nat}{c:Array Value}{U:TypeId}{sz:Nat}{agg:Bool}(ti:TI P U sz bytes agg z)(h:w.heap[b]? =some (.cells c T fr)){r:Rp α}(hsz:r.sz=sz)(hag:r.agg=agg){x:α}(hx:r.rc S ((c.toList.drop off).take r.sz) x):
  (loadVar U ⟨b,off,none⟩).run P w= .ok (r.val ((c.toList.drop off).take r.sz)) w:=by
 have hl:=r.len hx
 subst hsz
 subst hag
 simp only [loadVar,lO,ti.isAgg,mu]
 cases ha:r.agg with
 |true=>simp [ti.sizeOf,tu h rfl hl,Rp.val,ha]
 |false=>
  have h1:=r.sc ha
  have hcell:w.cell? ⟨b,off,none⟩=some (((c.toList.drop off).take r.sz).headD undef):=by
   rw [sW h]
   rw [h1]at hl ⊢
   cases hd:c.toList.drop off with
   |nil=>rw [hd]at hl;simp at hl
   |cons v rest=>
    have:(c.toList.drop off)[0]? =some v:=by rw [hd];rfl
    rw [uR]at this
    simpa using this
  simp [hcell,Rp.val,ha]

variable{ats:Array TypeId}
section
variable{E:En}{ty:TypeId}
theorem bp{r:Rp α}{x:α}{U:TypeId}{p:Operand}{sz:Nat}{agg:Bool}(ti:TI E.P U sz bytes agg z)(hsz:r.sz=sz)(hag:r.agg=agg)(hp:aG E.N G p (bj r x)):
  bH E O G ⟨dst,.load U p,ty,pos,after,g⟩ (tD r x):=
 .of_pure fun a w S hs _ hf=>by
  obtain⟨b,off,c,T,fr,h1,h2,h3⟩:=hp S a hf
  obtain⟨c',h4,h5⟩:=hs.part h2 (r.len h3)
  rw [←h5]at h3
  refine⟨r.val ((c'.toList.drop off).take r.sz),?_,_,rfl,h3⟩
  simp [execOp,h1,Instr.loadAt,Instr.sureAddr,fF ti h4 hsz hag h3]

theorem C0(s:jn):(ByteArray.mk s.toArray).size=s.length:=by simp [ByteArray.size]
theorem ca{r:Rp α}{t:TypeId}(ht:E.P.underlying t=some (.slice e))(hx:aG E.N G x (tD (dz r) xs)):
  bH E O G ⟨dst,.call ⟨.builtin .len,#[x],#[t]⟩,ty,pos,after,g⟩ (tD (rI .i64) (xs.length:Int)):=
 .of_pure fun a w S _ _ hf=>by
  obtain⟨ad,cap,h1,_⟩:=jp.1 (hx S a hf)
  refine⟨.int .i64 xs.length,?_,cQ.2 rfl⟩
  simp [execOp,resolve,invoke,builtin,Builtin.len_,lN ht,h1,goInt]
theorem yU{s:jn}{t:TypeId}(ht:E.P.underlying t=some .string)(hx:aG E.N G x (tD rS s)):
  bH E O G ⟨dst,.call ⟨.builtin .len,#[x],#[t]⟩,ty,pos,after,g⟩ (tD (rI .i64) (s.length:Int)):=
 .of_pure fun a w S _ _ hf=>by
  have h1:a.eval x= .string ⟨s.toArray⟩:=pO.1 (hx S a hf)
  refine⟨.int .i64 s.length,?_,cQ.2 rfl⟩
  simp [execOp,resolve,invoke,builtin,Builtin.len_,lN ht,h1,goInt,C0]

def eG{α:Type}(xs:List α)(i:Int):Option α:=if 0≤i then xs[i.toNat]? else none
theorem y4(xs:List α)(i:Nat):eG xs (i:Int)=xs[i]? :=by simp [eG]
theorem Dz{r:Rp α}{a:Option Addr}(h:zW r S a xs){x:α}(hx:xs[i]? =some x):
  ∃b off c T fr,a=some ⟨b,off,none⟩∧S b=some (.cells c T fr)∧r.rc S ((c.toList.drop (off+i*r.sz)).take r.sz) x:=by
 rcases h with rfl|⟨b,off,c,T,fr,e1,e2,e3⟩
 ·simp at hx
 ·refine⟨b,off,c,T,fr,e1,e2,?_⟩
  have h:=vd e3 hx
  have hi:i<xs.length:=(md.1 hx).1
  rw [zD,wI,sd]at h
  have:min r.sz (xs.length*r.sz-i*r.sz)=r.sz:=by
   rw [←Nat.sub_mul]
   have:1*r.sz≤(xs.length-i)*r.sz:=uS _ (by omega)
   omega
  rw [this]at h
  exact h
theorem aO{r:Rp α}{y:α}{ix:Operand}{t:TypeId}{k:IntKind}{i:Int}{sz:Nat}{agg:Bool}(ht:E.P.underlying t=some (.slice e))(ti:TI E.P e sz bytes agg z)(hsz:r.sz=sz)(hx:aG E.N G x (tD (dz r) xs))(hi:aG E.N G ix (tD (rI k) i))(hy:eG xs i=some y):
  bH E O G ⟨dst,.indexAddr t x ix,ty,pos,after,g⟩ (bj r y):=
 .of_pure fun a w S _ _ hf=>by
  obtain⟨ad,cap,h1,_,_,h2⟩:=jp.1 (hx S a hf)
  have h3:a.eval ix= .int k i:=cQ.1 (hi S a hf)
  have h0:0≤i:=by unfold eG at hy;split at hy;assumption;cases hy
  have hy' :xs[i.toNat]? =some y:=by unfold eG at hy;rw [cU h0]at hy;exact hy
  have hlt:i.toNat<xs.length:=(md.1 hy').1
  obtain⟨b,off,c,T,fr,e1,e2,e3⟩:=Dz h2 hy'
  subst e1
  refine⟨.pointer (some ⟨b,off+i.toNat*r.sz,none⟩),?_,b,_,c,T,fr,rfl,e2,e3⟩
  have hc:0≤i∧i<(xs.length:Int):=⟨h0,by omega⟩
  simp [execOp,h1,h3,Instr.indexAt,asIntOf,lN ht,hc,ti.sizeOf,eL,hsz]

def ik{α β:Type}(r:Rp α)(off:Nat)(q:Rp β)(get:α→β):Prop:= ∀S cs x,r.rc S cs x→q.rc S ((cs.drop off).take q.sz) (get x)
def bJ(P:Program)(T:TypeId)(i:Nat):Option (Nat×Nat):=
 match P.underlying T with
 |some (.struct fs)=>(fs[i]?).bind fun f=>(P.info? f.type).map fun q=>(f.offset,q.size)
 |_=>none
theorem tv{P:Program}{sz:Nat}(h:bJ P T i=some (off,sz)): ∃fs f,P.underlying T=some (.struct fs)∧fs[i]? =some f∧f.offset=off∧ ∀w,(sizeOf f.type).run P w= .ok sz w:=by
 unfold bJ at h
 split at h
 ·rename_i fs hu
  cases hf:fs[i]? with
  |none=>rw [hf]at h;simp at h
  |some f=>
   rw [hf]at h
   cases hq:P.info? f.type with
   |none=>simp [hq]at h
   |some q=>
    simp [hq]at h
    exact⟨fs,f,hu,hf,h.1,fun w=>by simp [sizeOf,typeInfo,hq,h.2]⟩
 ·cases h
theorem hJ{r:Rp α}{q:Rp β}{get:α→β}{x:α}{sz:Nat}{p:Operand}(hf:bJ E.P T i=some (off,sz))(h0:Nat.beq sz 0=false)(hq:ik r off q get)(hoff:Nat.ble (off+q.sz) r.sz=true)(hp:aG E.N G p (bj r x)):bH E O G ⟨dst,.fieldAddr T p i,ty,pos,after,g⟩ (bj q (get x)):=
 .of_pure fun a w S _ _ hF=>by
  obtain⟨b,o,c,U,fr,h1,h2,h3⟩:=hp S a hF
  obtain⟨fs,f,e1,e2,e3,e4⟩:=tv hf
  have h0' :sz≠0:=fun e=>by subst e;simp at h0
  have hoff' :off+q.sz≤r.sz:=kj hoff
  refine⟨.pointer (some ⟨b,o+off,none⟩),?_,b,_,c,U,fr,rfl,h2,?_⟩
  ·simp [execOp,h1,Instr.fieldAt,lN e1,e2,Instr.sureAddr,fieldPlace,e4,h0',e3,eL]
  ·have:=hq S _ x h3
   rw [zD,wI,sd,vt (by omega)]at this
   exact this
def al(P:Program)(f:FuncId):Bool:=
 match P.funcs[f]? with
 |some fn=> !(fn.name== "runtime.NumGoroutine")&&fn.body.isSome
 |none=>false
theorem dL{P:Program}(h:al P f=true)(args:Array Value)(w:World):(callFunc f args).run P w= .ok (.enter f args) w:=by
 unfold al at h
 cases hf:P.funcs[f]? with
 |none=>rw [hf]at h;cases h
 |some fn=>
  rw [hf]at h
  simp only [ki,Bool.not_eq_true']at h
  have h1:fn.name≠ "runtime.NumGoroutine" :=by simpa using h.1
  have h2:fn.body≠none:=fun e=>by rw [e]at h;simp at h
  simp [callFunc,hf,h1,h2]
def fq(N:Fr)(G:gT):List Operand→List Ty→Prop
 |[],[]=>True
 |x::xs,t::ts=>aG N G x t∧fq N G xs ts
 |_,_=>False
theorem fq.tys{N:Fr}(hF:cJ N S a G): ∀{xs:List Operand} {ts:List Ty},fq N G xs ts→pJ S ts (xs.map a.eval)
 |[],[],_=>trivial
 |_::_,_::_,⟨h1,h2⟩=>⟨h1 S a hF,fq.tys hF h2⟩
theorem aK{xs:List Operand}(hc:al E.P f=true)(hs:bn E.P f ts t)(hx:fq E.N G xs ts):
  bH E O G ⟨dst,.call ⟨.value (.func f),xs.toArray,ats⟩,ty,pos,after,g⟩ t:=fun a w S hS _ hF=>by
 have hr:(execOp a.eval ⟨dst,.call ⟨.value (.func f),xs.toArray,ats⟩,ty,pos,after,g⟩).run E.P w= .ok (.enter f (xs.map a.eval).toArray) w:=by
  simp [execOp,resolve,Act.eval,Deferred.ofValue,invoke,dL hc]
 refine⟨fun c h=>(by cases h),?_⟩
 rw [hr]
 exact(hs w S _ hS (hx.tys hF)).mono fun e w' ⟨v,S',he,h1,h2,h3⟩=>⟨v,he,v,S',rfl,h1,h2,h3⟩
end

theorem iD{o:Obj}(h:k<w.heap.size):(w.alloc o).heap[k]? =w.heap[k]? :=RowKit.Below.heap_alloc w o k h
def SH.set(S:SH)(b:Nat)(o:Obj):SH:=fun k=>if k=b then some o else S k
theorem kh(S:SH)(b:Nat)(o:Obj):S.set b o b=some o:=cU rfl
theorem lm(S:SH){b:Nat}(o:Obj)(h:k≠b):S.set b o k=S k:=cM h
theorem tY{b:Nat}{o:Obj}(h: ∀q,S b=some q→wT q o):kY S (S.set b o):=fun k q hq=>by
 by_cases hk:k=b
 ·subst hk;exact⟨o,kh _ _ _,h q hq⟩
 ·exact⟨q,by rw [lm _ _ hk];exact hq,qf q⟩
theorem eM.set(h:eM w S){b:Nat}{o:Obj}(h1:w.heap[b]? =some o')(h2:wT o o')(h3: ∀q,S b=some q→wT q o):eM w (S.set b o):=by
 refine⟨fun k q hq=>?_,fun p hp=>?_,fun w' hw' =>h.tb w' fun k q hq=>?_⟩
 ·by_cases hk:k=b
  ·subst hk
   rw [kh]at hq
   cases hq
   exact⟨o',h1,h2⟩
  ·rw [lm _ _ hk]at hq;exact h k q hq
 ·obtain⟨c,T,fr,g1,g2⟩:=h.gl p hp
  by_cases hk:p.1=b
  ·subst hk
   obtain⟨d,hd⟩:=h3 _ g1
   refine⟨_,T,fr,by rw [kh,hd],?_⟩
   rw [List.toList_toArray,Gc ?_]
   ·exact g2
   ·have:=congrArg List.length g2
    rw [zF]at this
    omega
  ·exact⟨c,T,fr,by rw [lm _ _ hk];exact g1,g2⟩
 ·by_cases hk:k=b
  ·subst hk
   obtain⟨o1,g1,g2⟩:=hw' k o (kh _ _ _)
   exact⟨o1,g1,xC (h3 q hq) g2⟩
  ·exact hw' k q (by rw [lm _ _ hk];exact hq)
theorem dg(o:Obj)(hs:eM w S):dQ kq w S (w.alloc o) S∧eM (w.alloc o) S∧S w.heap.size=none:=by
 refine⟨⟨rfl,rfl,rfl,fy _,by simp,fun k hk _=>iD hk,SH.le_refl _,fun _ _ _=>rfl⟩,hs.same fun b q hb=>iD (hs.lt hb),?_⟩
 cases h:S w.heap.size with
 |none=>rfl
 |some q=>have:=hs.lt h;omega
theorem nN(o:Obj)(hs:eM w S):dQ kq w S (w.alloc o) (S.set w.heap.size o)∧eM (w.alloc o) (S.set w.heap.size o):=by
 obtain⟨h1,h2,h3⟩:=dg o hs
 refine⟨⟨rfl,rfl,rfl,fy _,by simp,fun k hk _=>iD hk,tY fun q hq=>(by rw [h3]at hq;cases hq),fun k hk _=>lm _ _ (by omega)⟩,h2.set (uP w o) (qf o) fun q hq=>by rw [h3]at hq;cases hq⟩
theorem qD(hs:eM w S):dQ kq w S w.drew S∧eM w.drew S:=⟨⟨rfl,rfl,rfl,Nat.le_succ _,fy _,fun _ _ _=>rfl,SH.le_refl _,fun _ _ _=>rfl⟩,hs.same fun _ _ _=>rfl⟩

def aC(l:Option Nat)(cap n:Nat):Value:=
 match l with
 |none=> .slice none 0 0
 |some b=> .slice (some ⟨b,0,none⟩) n cap
def rq(w:World)(T:TypeId)(sz:Nat)(l:Option Nat)(cap n:Nat)(cells:List Value):Prop:=
 match l with
 |none=>n=0∧cells=[]
 |some b=> ∃cur,w.heap[b]? =some (.cells cur T (0,0))∧n≤cap∧cap≤maxLen∧cur.size=cap*sz∧cur.toList.take (n*sz)=cells
def u7{α:Type}(m:Bool)(r:Rp α)(T:TypeId)(l:Option Nat)(cap:Nat)(xs:List α)(w:World)(S:SH):Prop:=
 ∃cells,rq w T r.sz l cap xs.length cells∧oj r S cells xs∧ ∀b,l=some b→S b=if m then some (.cells cells.toArray T (0,0))else none
theorem rq.lt{sz b n:Nat}(h:rq w T sz (some b) cap n cells):b<w.heap.size:=by
 obtain⟨cur,h1,_⟩:=h
 exact(uO.1 h1).1
theorem rq.ext{sz n:Nat}(h:rq w T sz l cap n cells)(k: ∀b,l=some b→w'.heap[b]? =w.heap[b]?):rq w' T sz l cap n cells:=by
 cases l with
 |none=>exact h
 |some b=>
  obtain⟨cur,h1,h2⟩:=h
  exact⟨cur,by rw [k b rfl];exact h1,h2⟩
def gQ{α:Type}(m:Bool)(r:Rp α)(T:TypeId)(l:Option Nat)(cap:Nat)(xs:List α):OE where
 fp:=fun k=>l=some k
 p:=u7 m r T l cap xs
 here:=by
  intro w S h k hk
  subst hk
  obtain⟨cells,h1,_⟩:=h
  exact h1.lt
 kept:=by
  intro C w w' S S' h k hC
  obtain⟨cells,h1,h2,h3⟩:=h
  refine⟨cells,h1.ext fun b hb=>?_,mH k.keep h2,fun b hb=>?_⟩
  ·subst hb;exact k.heap b h1.lt (hC b rfl)
  ·subst hb;rw [k.old b h1.lt (hC b rfl)];exact h3 b rfl
abbrev ee{α:Type}(r:Rp α)(T:TypeId)(l:Option Nat)(cap:Nat)(xs:List α):OE:=gQ false r T l cap xs
abbrev bV{α:Type}(r:Rp α)(T:TypeId)(l:Option Nat)(cap:Nat)(xs:List α):OE:=gQ true r T l cap xs
def kr{α:Type}(xs ys:List α):Option (List α):=if xs.length+ys.length≤68719476736 then some (xs++ys)else none
variable{zs:List α}
theorem FS(h:kr xs ys=some zs):zs=xs++ys∧xs.length+ys.length≤68719476736:=by
 unfold kr at h
 split at h
 ·exact⟨by simpa using h.symm,by assumption⟩
 ·cases h
variable{news:List Value}
theorem q4{P:Program}{t tx ty:TypeId}{i:TypeInfo}(ht:P.underlying t=some (.slice e))(hi:P.info? e=some i){g sLen sCap:Nat}{cur:Array Value}(hg:w.heap[g]? =some (.cells cur e (0,0))){x:Value}{n:Nat}(hs:Src P i.size tx x n news w)(hroom:sLen+n≤sCap)(hfit:sLen*i.size+news.length≤cur.size):
  (Builtin.append_ #[t,tx] ty #[.slice (some ⟨g,0,none⟩) sLen sCap,x]).run P w=
   .ok (.slice (some ⟨g,0,none⟩) (sLen+n) sCap) (w.setRow g (cur.toList.take (sLen*i.size)++news++cur.toList.drop (sLen*i.size+news.length)).toArray):=by
 have hst:=run_storeCells_at P g (sLen*i.size) e news 0 cur w hg (by simpa using hfit) hs.one
 simp only [Nat.add_zero]at hst
 rcases hs.kind with⟨e',hk⟩|hk<;>simp [Builtin.append_,lN ht,lN hk,sizeOf,typeInfo,hi,hs.len,hroom,hs.cells,Addr.add_lit,hst]
structure HW(l:Option Nat)(w w' :World):Prop where
 os:w'.os=w.os
 tape:w'.tape=w.tape
 output:w'.output=w.output
 drawn:w.drawn≤w'.drawn
 size:w.heap.size≤w'.heap.size
 heap: ∀k,k<w.heap.size→l≠some k→w'.heap[k]? =w.heap[k]?
variable{t' :TypeId}
theorem vQ{P:Program}{t ty:TypeId}{sz:Nat}{agg:Bool}{n m:Nat}{x:Value}(ti:TI P T sz bytes agg z)(hz:Nat.beq z.length sz=true)(h0:Nat.blt 0 sz=true)(h128:Nat.ble bytes 2048=true)(ht:P.underlying t=some (.slice T))(h:rq w T sz l cap n cells)(hs:Src P sz t' x m news w)(hlen:n+m≤68719476736):
  ∃l' cap' w',(Builtin.append_ #[t,t'] ty #[aC l cap n,x]).run P w= .ok (aC l' cap' (n+m)) w' ∧rq w' T sz l' cap' (n+m) (cells++news)∧HW l w w' ∧(∀b,l' =some b→l=some b∨w.heap.size≤b)∧(∀b,l=some b→l' ≠some b→w'.heap[b]? =w.heap[b]?):=by
 obtain⟨i,zv,hi,h1,h2,h3,h4⟩:=ti.get
 have h128' :=kj h128
 have h0' :0<sz:=by simpa [oa] using h0
 have hz2:z.length=sz:=q8 hz
 subst h1
 have hnl:=hs.newsLen
 have hbytes:(n+m)*i.bytes≤140737488355328:=io (Nat.mul_le_mul hlen (by omega:i.bytes≤2048)) (by omega)
 by_cases hm:m=0
 ·subst hm
  have hn0:news=[]:=th (by simpa using hnl)
  subst hn0
  refine⟨l,cap,w,?_,by simpa using h,⟨rfl,rfl,rfl,fy _,fy _,fun _ _ _=>rfl⟩,fun b hb=> .inl hb,fun b _ _=>rfl⟩
  cases l with
  |none=>
   obtain⟨rfl,_⟩:=h
   exact run_append_nothing w t t' ty T i ht hi none 0 0 (fy _) _ hs
  |some b=>
   obtain⟨cur,_,hle,_⟩:=h
   exact run_append_nothing w t t' ty T i ht hi (some ⟨b,0,none⟩) n cap hle _ hs
 have IR: ∀old,old<n+m→Builtin.nextslicecap (n+m) old*i.bytes≤281474976710656:=fun old ho=>growslice_fits ho hbytes
 -- a new row
 have fresh: ∀(base:Option Addr) (olds:List Value),aC l cap n= .slice base n cap→olds=cells→cap<n+m→(Builtin.firstCells i.size n (.slice base n cap)).run P w.drew= .ok olds.toArray w.drew→cells.length=n*i.size→
   ∃l' cap' w',(Builtin.append_ #[t,t'] ty #[aC l cap n,x]).run P w= .ok (aC l' cap' (n+m)) w' ∧rq w' T i.size l' cap' (n+m) (cells++news)∧HW l w w' ∧(∀b,l' =some b→l=some b∨w.heap.size≤b)∧(∀b,l=some b→l' ≠some b→w'.heap[b]? =w.heap[b]?):=by
  intro base olds hv he hg hf hcl
  subst he
  have hr:=run_append_grow_src (P:=P) w t t' ty T i zv ht hi h3 base n cap olds hf x m news hs hg (by omega) (IR cap hg)
  have hge:=grownCap_ge w (n+m) cap T
  rw [←hv]at hr
  refine⟨some w.heap.size,grownCap w (n+m) cap T,_,hr,⟨_,uP w.drew _,hge,grownCap_le_maxLen _ _ _ _ (by simp only [maxLen];omega),?_,?_⟩,⟨rfl,rfl,rfl,Nat.le_succ _,by simp,fun k hk _=>?_⟩,fun b hb=> .inr (wH (jW hb)),fun b hb _=>?_⟩
  ·have:(Builtin.zeroCells zv.cells (grownCap w (n+m) cap T-(n+m))).size=(grownCap w (n+m) cap T-(n+m))*i.size:=by
    rw [size_zeroCells,h4];simp [hz2]
   simp only [Array.size_append,Dd,kW,hcl,hnl,this]
   rw [←pB,←pB]
   congr 1;omega
  ·have hl2:(olds++news).length=(n+m)*i.size:=by rw [kW,hcl,hnl,pB]
   rw [Array.toList_append,Gc (by simp only [List.toList_toArray];omega)]
   simp only [List.toList_toArray]
   exact yp (by omega)
  ·exact iD (w:=w.drew) hk
  ·cases l with
   |none=>cases hb
   |some b0=>
    have hb' :b0=b:=jW hb
    subst hb'
    exact iD (w:=w.drew) (rq.lt h)
 cases l with
 |none=>
  obtain⟨rfl,rfl⟩:=h
  have:=run_append_grow_src (P:=P) w t t' ty T i zv ht hi h3 none 0 0 [] (run_firstCells_none w.drew i.size 0 0 0) x m news hs (by omega) (by omega) (IR 0 (by omega))
  have hge:=grownCap_ge w (0+m) 0 T
  refine⟨some w.heap.size,grownCap w (0+m) 0 T,_,this,⟨_,uP w.drew _,hge,grownCap_le_maxLen _ _ _ _ (by simp only [maxLen];omega),?_,?_⟩,⟨rfl,rfl,rfl,Nat.le_succ _,by simp,fun k hk _=>?_⟩,fun b hb=> .inr (wH (jW hb)),fun b hb=>(by cases hb)⟩
  ·have:(Builtin.zeroCells zv.cells (grownCap w (0+m) 0 T-(0+m))).size=(grownCap w (0+m) 0 T-(0+m))*i.size:=by
    rw [size_zeroCells,h4];simp [hz2]
   simp only [Array.size_append,Dd,te,hnl,this]
   rw [←pB]
   congr 1;omega
  ·rw [Array.toList_append,Gc (by simp [hnl])]
   simp only [te,pL]
   exact yp (by omega)
  ·exact iD (w:=w.drew) hk
 |some b=>
  obtain⟨cur,hb,hle,hmax,hcs,hct⟩:=h
  have hcl:cells.length=n*i.size:=by
   rw [←hct,zF,Bg,hcs]
   exact vt (uS _ hle)
  by_cases hroom:n+m≤cap
  ·have hfit:n*i.size+news.length≤cur.size:=by rw [hnl,hcs,←pB];exact uS _ hroom
   have hr:=q4 (t:=t) (tx:=t') (ty:=ty) ht hi hb hs hroom hfit
   refine⟨some b,cap,_,hr,⟨_,setRow_heap w b cur _ T _ hb,hroom,hmax,?_,?_⟩,⟨rfl,rfl,rfl,fy _,by simp [World.setRow],fun k hk hkb=>setRow_other w b k _ (fun e=>hkb (by rw [e]))⟩,fun b' hb' => .inl hb',fun b' hb' hne=>absurd hb' hne⟩
   ·simp only [Dd,kW,zF,Bd,Bg]
    omega
   ·rw [hct,pB,←hnl,←hcl,show cells.length+news.length=(cells++news).length from by simp]
    exact List.take_left
  ·refine fresh (some ⟨b,0,none⟩) cells rfl rfl (by omega) (run_firstCells_some w.drew i.size n ⟨b,0,none⟩ n cap cells hcl fun j v hv=>?_) hcl
   have hj:j<cells.length:=(md.1 hv).1
   have hcell:w.cell? ⟨b,j,none⟩=cur[j]? :=sW hb j
   rw [eL]
   show w.cell? ⟨b,0+j,none⟩=_
   rw [pL,hcell]
   rw [←hct,wL (by omega)]at hv
   simpa using hv
theorem pR{P:Program}{r:Rp α}{e' :TypeId}(ht:P.underlying t' =some (.slice e'))(hs:eM w S)(hv:(tD (dz r) ys).p S v): ∃news,Src P r.sz t' v ys.length news w∧oj r S news ys:=by
 obtain⟨ad,c2,rfl,hcap,hmax,hsl⟩:=jp.1 hv
 rcases hsl with rfl|⟨b,off,c,U,fr,e1,e2,e3⟩
 ·refine⟨[],?_,rfl⟩
  cases ad with
  |none=>exact .ofNil w ht c2
  |some a=>exact .ofSlice w ht a 0 c2 [] (by simp) (fun j u hu=>by simp at hu) (fun u hu=>by cases hu)
 ·subst e1
  obtain⟨c',h4,h5⟩:=hs.part e2 (jS e3)
  refine⟨_,.ofSlice w ht ⟨b,off,none⟩ ys.length c2 _ (jS e3) (fun j u hu=>?_) (vc e3),e3⟩
  rw [eL,sW h4]
  rw [←h5]at hu
  have hj:j<ys.length*r.sz:=by
   have:=(md.1 hu).1
   simp at this;omega
  rw [wL hj,uR]at hu
  simpa using hu
variable{mm:Bool}
theorem pX{P:Program}{r:Rp α}{t ty:TypeId}{sz:Nat}{agg:Bool}{base:Nat}{B:Nat→Prop}(ti:TI P T sz bytes agg z)(hsz:r.sz=sz)(hz:Nat.beq z.length sz=true)(h0:Nat.blt 0 sz=true)(h128:Nat.ble bytes 2048=true)(ht:P.underlying t=some (.slice T))(hs:eM w S)(h:(gQ mm r T l cap xs).holds base B w S)(hb:base≤w.heap.size)(hsrc:Src P r.sz t' v ys.length news w)(hrc:oj r S news ys)(hz' :kr xs ys=some zs):
  ∃l' cap' w' S',(Builtin.append_ #[t,t'] ty #[aC l cap xs.length,v]).run P w= .ok (aC l' cap' zs.length) w' ∧dQ (fun k=>l=some k) w S w' S' ∧eM w' S' ∧(gQ mm r T l' cap' zs).holds base B w' S' ∧(∀b,l' =some b→l=some b∨w.heap.size≤b):=by
 subst hsz
 obtain⟨rfl,hlen⟩:=FS hz'
 obtain⟨⟨cells,h1,h2,h3⟩,hbase⟩:=h
 obtain⟨l',cap',w',hr,hraw,hg,hnew,hold⟩:=vQ (ty:=ty) ti hz h0 h128 ht h1 hsrc hlen
 have hrc' :oj r S (cells++news) (xs++ys):=oU h2 hrc
 -- what stood settled stands
 have hsat0: ∀k o,S k=some o→ ∃o',w'.heap[k]? =some o' ∧wT o o' :=fun k o hk=>by
  have hlt:=hs.lt hk
  by_cases hkl:l=some k
  ·obtain⟨o',e1,e2⟩:=hs k o hk
   by_cases hkl' :l' =some k
   ·subst hkl'
    subst hkl
    have h3' :=h3 k rfl
    cases mm with
    |false=>rw [h3']at hk;cases hk
    |true=>
     rw [h3']at hk
     cases hk
     obtain⟨cur',g1,g2,g3,g4,g5⟩:=hraw
     refine⟨_,g1,?_⟩;refine⟨news++cur'.toList.drop ((xs.length+ys.length)*r.sz),?_⟩
     congr 1
     apply Array.ext'
     rw [←oc,←g5,pC]
   ·rw [hold k hkl hkl'];exact hs k o hk
  ·rw [hg.heap k hlt hkl];exact hs k o hk
 have hsat:eM w' S:=⟨hsat0,hs.gl,hs.tb⟩
 have hSn: ∀b,l' =some b→l≠some b→S b=none:=fun b hb' hne=>by
  cases hq:S b with
  |none=>rfl
  |some q=>
   have:=hs.lt hq
   rcases hnew b hb' with h|h
   ·exact absurd h hne
   ·omega
 have hbase' : ∀k,l' =some k→base≤k∨B k:=fun k hk=>by
  rcases hnew k hk with h|h
  ·exact hbase k h
  ·exact .inl (by omega)
 have hz2:(xs++ys).length=xs.length+ys.length:=kW
 cases mm with
 |false=>
  refine⟨l',cap',w',S,by rw [hz2];exact hr,⟨hg.os,hg.tape,hg.output,hg.drawn,hg.size,fun k hk hkb=>hg.heap k hk hkb,SH.le_refl _,fun _ _ _=>rfl⟩,hsat,⟨⟨cells++news,by rw [hz2];exact hraw,hrc',fun b hb' =>?_⟩,hbase'⟩,hnew⟩
  by_cases hlb:l=some b
  ·exact h3 b hlb
  ·exact hSn b hb' hlb
 |true=>
  cases l' with
  |none=>
   refine⟨none,cap',w',S,by rw [hz2];exact hr,⟨hg.os,hg.tape,hg.output,hg.drawn,hg.size,fun k hk hkb=>hg.heap k hk hkb,SH.le_refl _,fun _ _ _=>rfl⟩,hsat,⟨⟨cells++news,by rw [hz2];exact hraw,hrc',fun b hb' =>(by cases hb')⟩,hbase'⟩,hnew⟩
  |some g=>
   have hq3: ∀q,S g=some q→wT q (.cells (cells++news).toArray T (0,0)):=fun q hq=>by
    by_cases hlb:l=some g
    ·have h4:S g=some (.cells cells.toArray T (0,0)):=h3 g hlb
     rw [h4]at hq
     cases hq
     exact⟨news,by simp⟩
    ·rw [hSn g rfl hlb]at hq;cases hq
   have hle:kY S (S.set g (.cells (cells++news).toArray T (0,0))):=tY hq3
   obtain⟨cur',g1,g2,g3,g4,g5⟩:=hraw
   refine⟨some g,cap',w',S.set g (.cells (cells++news).toArray T (0,0)),by rw [hz2];exact hr,⟨hg.os,hg.tape,hg.output,hg.drawn,hg.size,fun k hk hkb=>hg.heap k hk hkb,hle,fun k hk hkb=>lm _ _ ?_⟩,hsat.set g1 ?_ hq3,⟨⟨cells++news,by rw [hz2];exact⟨cur',g1,g2,g3,g4,g5⟩,mH hle hrc',fun b hb' =>?_⟩,hbase'⟩,hnew⟩
   ·rintro rfl
    rcases hnew k rfl with h|h
    ·exact hkb h
    ·omega
   ·refine⟨cur'.toList.drop ((xs.length+ys.length)*r.sz),?_⟩
    congr 1
    apply Array.ext'
    rw [←g5,pC]
   ·have hb2:g=b:=jW hb'
    subst hb2
    exact kh _ _ _

theorem Cf{e f:OE}(h:e.apart f):f.apart e:=fun b hb he=>h b he hb
theorem ck.swap{base:Nat}{B:Nat→Prop}{e f:OE}(h:ck base B w S (e::f::O)):ck base B w S (f::e::O):=by
 obtain⟨h1,h2,h3,h4,h5⟩:=h
 refine⟨h3,?_,h1,?_,h5⟩
 ·intro g hg
  rcases lM.1 hg with rfl|hg
  ·exact Cf (h2 _ (lr ..))
  ·exact h4 g hg
 ·intro g hg
  exact h2 g (lA _ hg)
theorem oy{base:Nat}{B:Nat→Prop}{e:OE}{O' :List OE}(h:ck base B w S (e::O))(k:ck base B w S O→ck base B w S O')(hm: ∀f∈O',f∈O):ck base B w S (e::O'):=
 ⟨h.1,fun f hf=>h.2.1 f (hm f hf),k h.2.2⟩
theorem m9{base:Nat}{B:Nat→Prop}{a b c:OE}(h:ck base B w S (a::b::c::O)):ck base B w S (c::a::b::O):=
 (oy h ck.swap (fun f hf=>by simp only [lM]at hf ⊢;rcases hf with h|h|h<;>simp [h])).swap
theorem m8{base:Nat}{B:Nat→Prop}{a b c d:OE}(h:ck base B w S (a::b::c::d::O)):ck base B w S (d::a::b::c::O):=
 (oy h m9 (fun f hf=>by simp only [lM]at hf ⊢;rcases hf with h|h|h|h<;>simp [h])).swap
theorem m7{base:Nat}{B:Nat→Prop}{a b c d e:OE}(h:ck base B w S (a::b::c::d::e::O)):ck base B w S (e::a::b::c::d::O):=
 (oy h m8 (fun f hf=>by simp only [lM]at hf ⊢;rcases hf with h|h|h|h|h<;>simp [h])).swap

section
variable{E:En}
theorem St.own_map{O' :List OE}(h:St E O G a w S)(k:ck E.base E.B w S O→ck E.base E.B w S O'):St E O' G a w S:=⟨h.ext,h.sat,k h.own,h.facts⟩
theorem St.base_le(h:St E O G a w S):E.base≤w.heap.size:=h.ext.size
theorem St.drop{e:OE}(h:St E (e::O) G a w S):St E O G a w S:=h.own_map fun h=>h.2.2
theorem St.fresh(mm:Bool)(r:Rp α)(T:TypeId)(h:St E O G a w S):St E (gQ mm r T none 0 []::O) G a w S:=
 h.own_map fun h=>by refine⟨⟨⟨[],⟨rfl,rfl⟩,rfl,fun b hb=>(by cases hb)⟩,fun k hk=>?_⟩,fun f _ b hb=>?_,h⟩<;>(first|cases hk|cases hb)
theorem vO{e:OE}{b:Nat}{o:Obj}(h:St E (e::O) G a w S)(hb:e.fp b)(ho:w.heap[b]? =some o')(hoo:wT o o')(hn:S b=none):St E O G a w (S.set b o)∧kY S (S.set b o)∧dQ (fun k=>k=b) w S w (S.set b o)∧eM w (S.set b o):=by
 have hbase:=h.own.1.2 b hb
 have hle:kY S (S.set b o):=tY fun q hq=>(by rw [hn]at hq;cases hq)
 have hsat:eM w (S.set b o):=h.sat.set ho hoo fun q hq=>by rw [hn]at hq;cases hq
 have hext:dQ (fun k=>k=b) w S w (S.set b o):=⟨rfl,rfl,rfl,fy _,fy _,fun _ _ _=>rfl,hle,fun k _ hk=>lm _ _ hk⟩
 refine⟨⟨h.ext.step hext fun c hc=>by subst hc;exact hbase,hsat,h.own.2.2.ext hext fun f hf c hc hm=>?_,h.facts.mono hle⟩,hle,hext,hsat⟩
 subst hm
 exact h.own.2.1 f hf c hb hc
def tO{α:Type}(r:Rp α)(l:Option Nat)(cap:Nat)(xs:List α):Ty where
 p:=fun S v=>v=aC l cap xs.length∧(tD (dz r) xs).p S v
 mono:=fun h ⟨h1,h2⟩=>⟨h1,Ty.mono _ h h2⟩
theorem vF{N:Fr}{G:gT}{r:Rp α}(h:aG N G x (tO r l cap xs)):aG N G x (tV (aC l cap xs.length)):=fun S a hf=>(h S a hf).1
theorem iW{N:Fr}{G:gT}{r:Rp α}(h:aG N G x (tO r l cap xs)):aG N G x (tD (dz r) xs):=fun S a hf=>(h S a hf).2
theorem ky{r:Rp α}{w:World}{S:SH}(h:u7 true r T l cap xs w S):(tD (dz r) xs).p S (aC l cap xs.length):=by
 obtain⟨cells,h1,h2,h3⟩:=h
 cases l with
 |none=>
  have hx:xs=[]:=th h1.1
  subst hx
  exact yB
 |some b=>
  obtain⟨cur,g1,g2,g3,g4,g5⟩:=h1
  refine jp.2 ⟨_,cap,rfl,g2,g3,.inr ⟨b,0,cells.toArray,T,(0,0),rfl,h3 b rfl,?_⟩⟩
  have:=jS h2
  rw [Bb,yp (by simp [this])]
  exact h2
theorem St.freeze{r:Rp α}(h:St E (ee r T l cap xs::O) G a w S):
  ∃S',St E (bV r T l cap xs::O) G a w S' :=by
 obtain⟨⟨cells,h1,h2,h3⟩,hbase⟩:=h.own.1
 cases l with
 |none=>exact⟨S,h.ext,h.sat,⟨⟨⟨cells,h1,h2,fun b hb=>(by cases hb)⟩,hbase⟩,h.own.2⟩,h.facts⟩
 |some b=>
  obtain⟨cur,g1,g2,g3,g4,g5⟩:=h1
  have hoo:wT (.cells cells.toArray T (0,0)) (.cells cur T (0,0)):=by
   refine⟨cur.toList.drop (xs.length*r.sz),?_⟩
   congr 1
   apply Array.ext'
   rw [←g5,pC]
  obtain⟨h8,hle,_,_⟩:=vO h rfl g1 hoo (h3 b rfl)
  refine⟨_,h8.ext,h8.sat,⟨⟨⟨cells,⟨cur,g1,g2,g3,g4,g5⟩,mH hle h2,fun b' hb' =>?_⟩,hbase⟩,h.own.2.1,h8.own⟩,h8.facts⟩
  have hb2:b=b' :=jW hb'
  subst hb2
  exact kh _ _ _
theorem St.settle{r:Rp α}(h:St E (gQ mm r T l cap xs::O) G a w S):
  ∃S',St E O G a w S' ∧(tD (dz r) xs).p S' (aC l cap xs.length):=by
 cases mm with
 |true=>exact⟨S,h.drop,ky h.own.1.1⟩
 |false=>
  obtain⟨S',h1⟩:=h.freeze
  exact⟨S',h1.drop,ky h1.own.1.1⟩
end

section
variable{E:En}{e:Exit}
theorem B3{N:Fr}(h:cJ N S a G)(hk:t.p S (a.tmps.getD k undef)):cJ N S a ((k,t)::G):=
 ⟨h.size,h.defers,fun j u hj=>by
  unfold look at hj
  by_cases hb:Nat.beq k j=true
  ·rw [hb]at hj
   have:=q8 hb
   subst this
   rw [←show t=u from by simpa using hj];exact hk
  ·rw [rs]at hb
   rw [hb]at hj
   exact h.at_ j u hj⟩
theorem St.cons(h:St E O G a w S)(hk:t.p S (a.tmps.getD k undef)):St E O ((k,t)::G) a w S:=⟨h.ext,h.sat,h.own,B3 h.facts hk⟩
theorem St.tipAt{r:Rp α}{n:Nat}(h:St E (bV r T l cap xs::O) G a w S)(hk:look G k=some (tV (aC l cap n)))(hn:n=xs.length):
  St E (bV r T l cap xs::O) ((k,tO r l cap xs)::G) a w S:=by
 subst hn
 have hv:a.tmps.getD k undef=aC l cap xs.length:=h.facts.at_ k _ hk
 exact h.cons ⟨hv,by rw [hv];exact ky h.own.1.1⟩
theorem bQ(mm:Bool)(r:Rp α)(T:TypeId)(h:RG E ops Q rest (gQ mm r T none 0 []::O) G):RG E ops Q rest O G:=fun a w S st=>h a w S (st.fresh mm r T)
theorem zy{f:OE}(h:RG E ops Q rest O G):RG E ops Q rest (f::O) G:=fun a w S st=>h a w S st.drop
theorem CG.drop{f:OE}(h:CG E Q c O G):CG E Q c (f::O) G:=fun a w S st=>h a w S st.drop
theorem aU{f:OE}(h:AT E Q e O G):AT E Q e (f::O) G:=fun a w S st=>h a w S st.drop
theorem bN{x y:OE}(h:RG E ops Q rest (y::x::O) G):RG E ops Q rest (x::y::O) G:=fun a w S st=>h a w S (st.own_map ck.swap)
theorem bU{x y:OE}(h:AT E Q e (y::x::O) G):AT E Q e (x::y::O) G:=fun a w S st=>h a w S (st.own_map ck.swap)
theorem dr{x y z:OE}(h:RG E ops Q rest (z::x::y::O) G):RG E ops Q rest (x::y::z::O) G:=fun a w S st=>h a w S (st.own_map m9)
theorem au{x y z:OE}(h:AT E Q e (z::x::y::O) G):AT E Q e (x::y::z::O) G:=fun a w S st=>h a w S (st.own_map m9)
theorem cS{x y z:OE}(h:RG E ops Q rest (u::x::y::z::O) G):RG E ops Q rest (x::y::z::u::O) G:=fun a w S st=>h a w S (st.own_map m8)
theorem bh{x y z:OE}(h:AT E Q e (u::x::y::z::O) G):AT E Q e (x::y::z::u::O) G:=fun a w S st=>h a w S (st.own_map m8)
theorem eQ{x y z v:OE}(h:RG E ops Q rest (v::x::y::z::u::O) G):RG E ops Q rest (x::y::z::u::v::O) G:=fun a w S st=>h a w S (st.own_map m7)
theorem cn{x y z v:OE}(h:AT E Q e (v::x::y::z::u::O) G):AT E Q e (x::y::z::u::v::O) G:=fun a w S st=>h a w S (st.own_map m7)
theorem nM{f:OE}(h:LG E Q c O G):LG E Q c (f::O) G:=fun a w S st=>h a w S st.drop
theorem eA{x y:OE}(h:LG E Q c (y::x::O) G):LG E Q c (x::y::O) G:=fun a w S st=>h a w S (st.own_map ck.swap)
theorem jC{x y z:OE}(h:LG E Q c (z::x::y::O) G):LG E Q c (x::y::z::O) G:=fun a w S st=>h a w S (st.own_map m9)
theorem lq{x y z:OE}(h:LG E Q c (u::x::y::z::O) G):LG E Q c (x::y::z::u::O) G:=fun a w S st=>h a w S (st.own_map m8)
theorem ln{x y z v:OE}(h:LG E Q c (v::x::y::z::u::O) G):LG E Q c (x::y::z::u::v::O) G:=fun a w S st=>h a w S (st.own_map m7)
theorem ms{r:Rp α}(h:RG E ops Q rest (bV r T l cap xs::O) G):RG E ops Q rest (ee r T l cap xs::O) G:=fun a w _ st=>let⟨S',st'⟩:=st.freeze;h a w S' st'
theorem qA{r:Rp α}{n:Nat}(k:Nat)(hk:look G k=some (tV (aC l cap n)))(h:RG E ops Q rest (bV r T l cap xs::O) ((k,tO r l cap xs)::G))(hn:n=xs.length:=by rfl):RG E ops Q rest (bV r T l cap xs::O) G:=fun a w S st=>h a w S (st.tipAt hk hn)
theorem t8{r:Rp α}(h:CG E Q c (bV r T l cap xs::O) G):CG E Q c (ee r T l cap xs::O) G:=fun a w _ st=>let⟨S',st'⟩:=st.freeze;h a w S' st'
theorem s7{r:Rp α}{n:Nat}(k:Nat)(hk:look G k=some (tV (aC l cap n)))(h:CG E Q c (bV r T l cap xs::O) ((k,tO r l cap xs)::G))(hn:n=xs.length:=by rfl):CG E Q c (bV r T l cap xs::O) G:=fun a w S st=>h a w S (st.tipAt hk hn)
theorem fY{r:Rp α}(h:AT E Q e (bV r T l cap xs::O) G):AT E Q e (ee r T l cap xs::O) G:=fun a w _ st=>let⟨S',st'⟩:=st.freeze;h a w S' st'
theorem cB{r:Rp α}{n:Nat}(k:Nat)(hk:look G k=some (tV (aC l cap n)))(h:AT E Q e (bV r T l cap xs::O) ((k,tO r l cap xs)::G))(hn:n=xs.length:=by rfl):AT E Q e (bV r T l cap xs::O) G:=fun a w S st=>h a w S (st.tipAt hk hn)
theorem bf{r:Rp α}(hk:look G k=some (tD (dz r) xs))(h:xs.length≤maxLen→CG E Q c O G):CG E Q c O G:=fun a w S st=>by
 obtain⟨_,_,_,h1,h2,_⟩:=jp.1 (st.facts.at_ k _ hk)
 exact h (io h1 h2) a w S st

section
variable{ty:TypeId}
theorem St.append{r:Rp α}{t ty:TypeId}{sz:Nat}{agg:Bool}(ti:TI E.P T sz bytes agg z)(hsz:r.sz=sz)(hz:Nat.beq z.length sz=true)(h0:Nat.blt 0 sz=true)(h128:Nat.ble bytes 2048=true)(ht:E.P.underlying t=some (.slice T))(st:St E (gQ mm r T l cap xs::O) G a w S)(hsrc:Src E.P r.sz t' v ys.length news w)(hrc:oj r S news ys)(happ:kr xs ys=some zs):
  ∃l' cap' w' S',(Builtin.append_ #[t,t'] ty #[aC l cap xs.length,v]).run E.P w= .ok (aC l' cap' zs.length) w' ∧St E (gQ mm r T l' cap' zs::O) G a w' S' :=by
 obtain⟨l',cap',w',S',hr,hext,hsat,hh,hnew⟩:=pX (ty:=ty) ti hsz hz h0 h128 ht st.sat st.own.1 st.base_le hsrc hrc happ
 refine⟨l',cap',w',S',hr,st.ext.step hext fun b hb=>st.own.1.2 b hb,hsat,⟨hh,fun f hf b hb hfb=>?_,st.own.2.2.ext hext fun f hf b hb hbl=>st.own.2.1 f hf b hbl hb⟩,st.facts.mono hext.keep⟩
 rcases hnew b hb with h|h
 ·exact st.own.2.1 f hf b h hfb
 ·have:=f.here (ck.mem st.own.2.2 f hf).1 b hfb
  omega
theorem St.put{d:Nat}(h:St E O G a w S)(hd:Nat.blt d E.N.n=true)(hv:t.p S v):St E O ((d,t)::G) (a.put (some d) v) w S:=⟨h.ext,h.sat,h.own,h.facts.put hd hv⟩
theorem rZ{r:Rp α}{t:TypeId}{sz:Nat}{agg:Bool}{n:Nat}{u:Nat→Option Nat→Ty}(ti:TI E.P T sz bytes agg z)(hsz:r.sz=sz)(hz:Nat.beq z.length sz=true)(h0:Nat.blt 0 sz=true)(h128:Nat.ble bytes 2048=true)(ht:E.P.underlying t=some (.slice T))(hd:Nat.blt d E.N.n=true)(hx:aG E.N G x (tV (aC l cap n)))(hy: ∀a w S,St E (gQ mm r T l cap xs::O) G a w S→ ∃news,Src E.P r.sz t' (a.eval y) ys.length news w∧oj r S news ys)(happ:kr xs ys=some zs)(hu: ∀l' cap' w0 S,(gQ mm r T l' cap' zs).p w0 S→(u cap' l').p S (aC l' cap' zs.length))(k: ∀l' cap',RG E ops Q rest (gQ mm r T l' cap' zs::O) ((d,u cap' l')::G))(hn:n=xs.length):
  RG E ops Q (⟨some d,.call ⟨.builtin .append,#[x,y],#[t,t']⟩,ty,pos,after,none⟩::rest) (gQ mm r T l cap xs::O) G:= .of rfl fun a w S st=>by
 subst hn
 have h1:a.eval x=aC l cap xs.length:=hx S a st.facts
 obtain⟨news,h2,h3⟩:=hy a w S st
 obtain⟨l',cap',w',S',hr,st'⟩:=st.append (ty:=ty) ti hsz hz h0 h128 ht h2 h3 happ
 have hrun:(execOp a.eval ⟨some d,.call ⟨.builtin .append,#[x,y],#[t,t']⟩,ty,pos,after,none⟩).run E.P w= .ok (.value (aC l' cap' zs.length)) w' :=by
  simp [execOp,resolve,invoke,builtin,h1,hr]
 refine⟨fun c h=>(by cases h),?_⟩
 rw [hrun]
 exact k l' cap' _ _ S' (st'.put hd (hu l' cap' w' S' st'.own.1.1))
theorem cT{r:Rp α}{t:TypeId}{sz:Nat}{agg:Bool}{n:Nat}(ti:TI E.P T sz bytes agg z)(hsz:r.sz=sz)(hz:Nat.beq z.length sz=true)(h0:Nat.blt 0 sz=true)(h128:Nat.ble bytes 2048=true)(ht:E.P.underlying t=some (.slice T))(ht' :t' =t)(hd:Nat.blt d E.N.n=true)(hx:aG E.N G x (tV (aC l cap n)))(hy:aG E.N G y (tD (dz r) ys))(happ:kr xs ys=some zs)(k: ∀l' cap',RG E ops Q rest (ee r T l' cap' zs::O) ((d,tV (aC l' cap' zs.length))::G))(hn:n=xs.length:=by rfl):
  RG E ops Q (⟨some d,.call ⟨.builtin .append,#[x,y],#[t,t']⟩,ty,pos,after,none⟩::rest) (ee r T l cap xs::O) G:=by
 subst ht'
 exact rZ (u:=fun cap' l' =>tV (aC l' cap' zs.length)) ti hsz hz h0 h128 ht hd hx (fun a w S st=>pR ht st.sat (hy S a st.facts)) happ (fun _ _ _ _ _=>rfl) k hn
theorem m5{r:Rp α}{t:TypeId}{sz:Nat}{agg:Bool}(ti:TI E.P T sz bytes agg z)(hsz:r.sz=sz)(hz:Nat.beq z.length sz=true)(h0:Nat.blt 0 sz=true)(h128:Nat.ble bytes 2048=true)(ht:E.P.underlying t=some (.slice T))(ht' :t' =t)(hd:Nat.blt d E.N.n=true)(hx:aG E.N G x (tO r l cap xs))(hy:aG E.N G y (tD (dz r) ys))(happ:kr xs ys=some zs)(k: ∀l' cap',RG E ops Q rest (bV r T l' cap' zs::O) ((d,tO r l' cap' zs)::G)):
  RG E ops Q (⟨some d,.call ⟨.builtin .append,#[x,y],#[t,t']⟩,ty,pos,after,none⟩::rest) (bV r T l cap xs::O) G:=by
 subst ht'
 exact rZ (u:=fun cap' l' =>tO r l' cap' zs) ti hsz hz h0 h128 ht hd (vF hx) (fun a w S st=>pR ht st.sat (hy S a st.facts)) happ (fun _ _ _ _ h=>⟨rfl,ky h⟩) k rfl
end
end

theorem sJ(off:Nat): ∀(cs:List Value) (k:Nat) (pre mid post:List Value),mid.length=cs.length→pre.length=off+k→
  (cs.zipIdx k).foldl (fun(a:Array Value) x=>a.setIfInBounds (off+x.2) x.1) (pre++mid++post).toArray=(pre++cs++post).toArray
 |[],k,pre,mid,post,hm,_=>by
  have:mid=[]:=th hm
  subst this;simp
 |c::cs,k,pre,mid,post,hm,hp=>by
  cases mid with
  |nil=>simp at hm
  |cons m mid=>
   simp only [List.zipIdx_cons,List.foldl_cons]
   have h1:(pre++(m::mid)++post).toArray.setIfInBounds (off+k) c=((pre++[c])++mid++post).toArray:=by
    rw [←hp]
    simp
   rw [h1,sJ off cs (k+1) (pre++[c]) mid post (by simpa using hm) (by simp;omega)]
   simp
theorem sk(v:Value)(off:Nat)(pre mid post:List Value)(hm:mid.length=v.cells.size)(hp:pre.length=off):
  v.cells.zipIdx.foldl (fun cs (x:Value×Nat)=>cs.setIfInBounds (off+x.2) x.1) (pre++mid++post).toArray=(pre++v.cells.toList++post).toArray:=by
 have:=sJ off v.cells.toList 0 pre mid post (by simpa using hm) (by simpa using hp)
 rw [←this,←Array.foldl_toList]
 simp [Array.toList_zipIdx]
theorem oe{r:Rp α}{x:α}(h:r.rc S cs x):(r.val cs).cells=cs.toArray:=by
 unfold Rp.val
 cases ha:r.agg with
 |true=>simp [Value.cells]
 |false=>
  have hl:=r.len h
  rw [r.sc ha]at hl
  match cs,hl with
  |[c],_=>
   have:=r.one h c (by simp)
   cases c<;>simp_all [Value.cells,Value.oneCell']
def uE:Nat→List Value→List (Nat×Value)
 |_,[]=>[]
 |k,v::vs=>(k,v)::uE (k+1) vs
theorem wi{α:Type}{r:Rp α}{S:SH}: ∀(ys:List α) (vs:List Value) (k:Nat) (pre zs:List Value),pJ S (ys.map (tD r)) vs→pre.length=k*r.sz→zs.length=ys.length*r.sz→
  ∃cs,oj r S cs ys∧Instr.fill (fun i=>some (i*r.sz,r.sz)) (pre++zs).toArray (uE k vs)=some (pre++cs).toArray
 |[],[],k,pre,zs,_,_,hz=>by
  have:zs=[]:=th (by simpa using hz)
  subst this
  exact⟨[],rfl,by simp [uE,Instr.fill]⟩
 |y::ys,v::vs,k,pre,zs,⟨⟨c,e,hc⟩,h2⟩,hp,hz=>by
  have hl:=r.len hc
  have hz' :r.sz≤zs.length:=by rw [hz,tf,pB];omega
  have e1:zs=zs.take r.sz++zs.drop r.sz:=(pC _ _).symm
  have hcells:v.cells=c.toArray:=by rw [e];exact oe hc
  obtain⟨cs,h3,h4⟩:=wi ys vs (k+1) (pre++c) (zs.drop r.sz) h2 (by rw [kW,hp,hl,pB];omega) (by rw [Bd,hz,tf,pB];omega)
  refine⟨c++cs,⟨c,cs,rfl,hc,h3⟩,?_⟩
  have hs:v.cells.size=r.sz:=by rw [hcells];simpa using hl
  have hcond: ¬((v.cells.size≠r.sz)∨(k*r.sz+v.cells.size>(pre++zs).toArray.size)):=by
   simp [hs];omega
  have h5:=sk v (k*r.sz) pre (zs.take r.sz) (zs.drop r.sz) (by simp [hs];omega) hp
  rw [oc,←e1]at h5
  simp only [uE,Instr.fill]
  rw [cM (by simpa using hcond)]
  rw [h5,hcells]
  simpa using h4
def rn:Nat→List Operand→List (Nat×Operand)
 |_,[]=>[]
 |k,v::vs=>(k,v)::rn (k+1) vs
theorem tQ(ρ:Operand→Value): ∀(k:Nat) (xs:List Operand),(rn k xs).map (fun x=>(x.1,ρ x.2))=uE k (xs.map ρ)
 |_,[]=>rfl
 |k,x::xs=>by simp [rn,uE,tQ ρ (k+1) xs]

section
variable{E:En}{ty:TypeId}
theorem pW{P:Program}{r:Rp α}{xs:List Operand}{ρ:Operand→Value}{t:TypeId}{n sz:Nat}{agg:Bool}(ht:P.underlying t=some (.slice T))(ti:TI P T sz bytes agg z)(hsz:r.sz=sz)(hn:n=ys.length)(hb:Nat.ble (n*sz) 16777216=true)(hx:pJ S (ys.map (tD r)) (xs.map ρ))(w:World):
  ∃cs,oj r S cs ys∧(Instr.buildSlice t n ((rn 0 xs).toArray.map fun x=>(x.1,ρ x.2))).run P w= .ok (.slice (some ⟨w.heap.size,0,none⟩) n n) (w.alloc (.cells cs.toArray T (0,0))):=by
 subst hsz
 have hb' :=kj hb
 obtain⟨zv,hzr,_⟩:=ti.zero w
 obtain⟨cs,hc,hfill⟩:=wi ys (xs.map ρ) 0 [] ((Array.range (n*r.sz)).map (fun i=>(if n*r.sz=0 then #[]else zv.cells)[i%(if n*r.sz=0 then #[]else zv.cells).size]!)).toList hx (by simp) (by simp [hn])
 refine⟨cs,hc,?_⟩
 have hparts:((rn 0 xs).toArray.map fun x=>(x.1,ρ x.2)).toList=uE 0 (xs.map ρ):=by simp [tQ]
 simp only [te,Array.toArray_toList]at hfill
 have hle: ¬(n*r.sz>2^24):=by omega
 by_cases hn0:n*r.sz=0
 ·simp only [hn0,if_true]at hfill
  simp only [Instr.buildSlice,lO,lN ht,mu,ti.sizeOf,Sem.run_ite,hn0,if_true,Sem.run_pure,hparts,hfill]
  simp [newRow]
 ·simp only [hn0,ta]at hfill
  simp only [Instr.buildSlice,lO,lN ht,mu,ti.sizeOf,Sem.run_ite,hle,ta,hn0,Sem.run_pure,hzr,hparts,hfill]
  simp [newRow]
theorem aR{r:Rp α}{xs:List Operand}{parts:List (Nat×Operand)}{t:TypeId}{n sz:Nat}{agg:Bool}(ht:E.P.underlying t=some (.slice T))(ti:TI E.P T sz bytes agg z)(hsz:r.sz=sz)(h0:Nat.blt 0 sz=true)(hp:parts=rn 0 xs)(hn:n=ys.length)(hb:Nat.ble (n*sz) 16777216=true)(hx:fq E.N G xs (ys.map (tD r))):bH E O G ⟨dst,.buildSlice t n parts.toArray,ty,pos,after,g⟩ (tD (dz r) ys):=
 .of_run fun a w S hs _ hf=>by
  obtain⟨cs,hc,hr⟩:=pW ht ti hsz hn hb (hx.tys hf) w
  subst hsz
  have hb' :=kj hb
  have h0' :0<r.sz:=by simpa [oa] using h0
  have hnle:n≤n*r.sz:=Nat.le_mul_of_pos_right n h0'
  obtain⟨he,hs'⟩:=nN (w:=w) (.cells cs.toArray T (0,0)) hs
  have hcl:=jS hc
  refine⟨.slice (some ⟨w.heap.size,0,none⟩) n n,_,_,?_,he,hs',jp.2 ⟨_,n,by rw [hn],by omega,by simp only [maxLen];omega,.inr ⟨w.heap.size,0,cs.toArray,T,(0,0),rfl,by simp [SH.set],?_⟩⟩⟩
  ·subst hp
   simp only [execOp,lO,hr,mu,Sem.run_pure]
  ·have:oj r (S.set w.heap.size (.cells cs.toArray T (0,0))) cs ys:=mH he.keep hc
   simpa [←hcl] using this
theorem BO{r:Rp α}{v:α}(hx:aG E.N G x (tD r v)):bH E O G ⟨dst,.box T x,ty,pos,after,g⟩ (bj r v):=
 .of_run fun a w S hs _ hf=>by
  obtain⟨cs,hv,hc⟩:=hx S a hf
  obtain⟨he,hs'⟩:=nN (w:=w) (.cells cs.toArray T (0,0)) hs
  refine⟨.pointer (some ⟨w.heap.size,0,none⟩),_,_,?_,he,hs',w.heap.size,0,cs.toArray,T,(0,0),rfl,by simp [SH.set],?_⟩
  ·simp [execOp,Instr.box,newVar,newRow,hv,oe hc]
  ·have:=r.mono he.keep hc
   have hl:=r.len hc
   simpa [←hl] using this
end

def k6(c:Bool)(t:Ty):Ty where
 p:=fun S v=>if c=true then t.p S v else v=undef
 mono:=fun h k=>by
  split
  ·rename_i hc;rw [cU hc]at k;exact t.mono h k
  ·rename_i hc;rw [cM hc]at k;exact k
variable{pol:Bool}
section
variable{E:En}
theorem bq{N:Fr}{c:Bool}(h:look G k=some (k6 c t))(hc:c=true):aG N G (.tmp k) t:=fun _ _ hF=>by
 have h2:if c=true then t.p _ (Act.eval _ (.tmp k))else _=undef:=hF.at_ k _ h
 rw [cU hc]at h2;exact h2
def nB(c b:Bool):Ty:=k6 c (tD rB b)
theorem ke(h:look G k=some (tD rB b)):aG E.N G (.tmp k) (nB true b):=fun _ _ hF=>by
 have h2:(tD rB b).p _ (Act.eval _ (.tmp k)):=hF.at_ k _ h
 simp only [nB,k6,if_true]
 exact h2
theorem xN{c:Bool}(h:look G k=some (k6 c (tD rB b))):aG E.N G (.tmp k) (nB c b):=fun _ _ hF=>hF.at_ k _ h
theorem oF{c:Bool}(hg:o.guard=some (j,pol))(hj:(ops[j]?).bind (·.dst)=some gs)(hn:gs<a.tmps.size)(hv:(nB c b).p S (a.tmps.getD gs undef)):
  Region.wanted o (yielded ops a.tmps)=(c&&(b==pol)):=by
 have hget:a.tmps[gs]? =some (a.tmps.getD gs undef):=by
  rw [yq,Array.getElem?_eq_getElem hn];rfl
 unfold Region.wanted
 rw [hg]
 simp only [yielded,hj,kU,hget]
 cases c with
 |true=>
  have:a.tmps.getD gs undef= .bool b:=fh.1 (by simpa [nB,k6] using hv)
  rw [this]
  cases b<;>cases pol<;>rfl
 |false=>
  have:a.tmps.getD gs undef=undef:=by simpa [nB,k6] using hv
  rw [this]
  cases pol<;>rfl
theorem zw{c:Bool}{op:Op}{ty:TypeId}(hj:(ops[j]?).bind (·.dst)=some gs)(hgs:Nat.blt gs E.N.n=true)(hg:aG E.N G (.tmp gs) (nB c b))(hd:Nat.blt d E.N.n=true)(h:(c&&(b==pol))=true→bH E O G ⟨some d,op,ty,pos,after,some (j,pol)⟩ t)(k:RG E ops Q rest O ((d,k6 (c&&(b==pol)) t)::G)):
  RG E ops Q (⟨some d,op,ty,pos,after,some (j,pol)⟩::rest) O G:=fun a w S st=>by
 have hgs' :gs<a.tmps.size:=by rw [st.facts.size];simpa [oa] using hgs
 have hw:=oF (o:=⟨some d,op,ty,pos,after,some (j,pol)⟩) rfl hj hgs' (hg S a st.facts)
 refine wpListIn_step fun K hK=>?_
 rw [hw]
 by_cases hc:(c&&(b==pol))=true
 ·rw [cU hc]
  refine fZ (fun a' w' ⟨v,S',ha,he,hs,hv⟩=>?_) (h hc a w S st.sat st.own st.facts)
  subst ha
  refine hK _ _ (k _ _ _ (st.step he hs hd ?_))
  simpa only [k6,hc,if_true] using hv
 ·rw [cM hc]
  refine⟨fun _ _=>trivial,hK _ _ (k _ _ S (st.step (dE _ _ _) st.sat hd ?_))⟩
  show if _ then _ else _
  rw [cM hc]
end

structure Nd where
 slot:Nat
 ty:Ty
 src:Option Nat
def bL(E:En)(O:List OE)(ops:Array Oper)(need:gT)(o:Oper)(t:Ty):Prop:=
 ∀a w S,eM w S→ck E.base E.B w S O→cJ E.N S a need→
  if Region.wanted o (yielded ops a.tmps)then Ap E.P o a w (fun a' w' => ∃v S',a' =a.put o.dst v∧dQ kq w S w' S' ∧eM w' S' ∧t.p S' v)else t.p S undef
def fk:List Nd→gT
 |[]=>[]
 |n::l=>(n.slot,n.ty)::fk l
def ud(o:Oper)(j:Nat):Bool:=o.after.toList.any fun e=>Nat.beq e.on j&&Region.binds .any e
def kz(l:List Oper)(o:Oper)(i:Nat)(n:Nd):Bool:=
 match n.src with
 |some j=>(match l[j]? with|some p=>(match p.dst with|some d=>Nat.beq d n.slot|none=>false)|none=>false)&&ud o j
 |none=>l.all fun p=>(match p.dst with|some d=> !(Nat.beq d n.slot)|none=>true)||ud p i
def qB(G:gT)(ts:List Ty)(n:Nd):Prop:=
 match n.src with
 |some j=>ts[j]? =some n.ty
 |none=>look G n.slot=some n.ty
def na(G:gT)(ts:List Ty):List Nd→Prop
 |[]=>True
 |n::l=>qB G ts n∧na G ts l
theorem na.mem: ∀{l:List Nd},na G ts l→ ∀n∈l,qB G ts n
 |_::_,⟨h,_⟩,_,.head _=>h
 |_::_,⟨_,h⟩,_,.tail _ hm=>na.mem h _ hm
def Hs(o:Oper):Nat:=o.dst.getD 0
def dh(i:Nat)(o:Oper):Bool:=o.after.toList.all fun e=> !(Region.binds .any e)||Nat.blt e.on i
def DR(E:En)(O:List OE)(G:gT)(l:List Oper)(ts:List Ty):Nat→List Oper→Prop
 |_,[]=>True
 |i,o::rest=>(∃(needs:List Nd) (t:Ty),ts[i]? =some t∧na G ts needs∧(needs.all (kz l o i))=true∧dh i o=true∧bL E O l.toArray (fk needs) o t)∧DR E O G l ts (i+1) rest
def oJ(N:Nat):List Nat→List Oper→Bool
 |_,[]=>true
 |seen,o::rest=>(match o.dst with|some d=>Nat.blt d N&& !(seen.any (Nat.beq d))&&oJ N (d::seen) rest|none=>false)
def M4(E:En)(O:List OE)(G:gT)(l:List Oper)(ts:List Ty)(i:Nat)(o:Oper):Prop:=
 ∃(needs:List Nd) (t:Ty),ts[i]? =some t∧na G ts needs∧(needs.all (kz l o i))=true∧dh i o=true∧bL E O l.toArray (fk needs) o t
theorem DR.get{E:En}{l:List Oper}(r:List Oper): ∀(k:Nat),DR E O G l ts k r→ ∀(j:Nat) (o:Oper),r[j]? =some o→M4 E O G l ts (k+j) o:=by
 induction r with
 |nil=>intro k _ j o h;simp at h
 |cons p r ih=>
  intro k h j o ho
  cases j with
  |zero=>simp at ho;subst ho;exact h.1
  |succ j=>
   have:=ih (k+1) h.2 j o (by simpa using ho)
   rwa [show k+1+j=k+(j+1)from by omega]at this
theorem pS{N:Nat}(l:List Oper): ∀(seen:List Nat),oJ N seen l=true→
  (∀o:Oper,o∈l→ ∃d,o.dst=some d∧d<N∧d∉seen)∧ ∀(i j:Nat) (o p:Oper),l[i]? =some o→l[j]? =some p→o.dst=p.dst→i=j:=by
 induction l with
 |nil=>exact fun _ _=>⟨fun _ h=>(by cases h),fun _ _ _ _ h=>(by simp at h)⟩
 |cons o l ih=>
  intro seen h
  unfold oJ at h
  cases hd:o.dst with
  |none=>rw [hd]at h;cases h
  |some d=>
   rw [hd]at h
   simp only [ki,Bool.not_eq_true']at h
   obtain⟨⟨h1,h2⟩,h3⟩:=h
   have h2' :d∉seen:=fun hm=>by
    rw [List.any_eq_false]at h2
    exact h2 d hm (by simp)
   obtain⟨ih1,ih2⟩:=ih _ h3
   refine⟨fun q hq=>?_,fun i j q p hi hj hdp=>?_⟩
   ·rcases lM.1 hq with rfl|hq
    ·exact⟨d,hd,by simpa [oa] using h1,h2'⟩
    ·obtain⟨d',e1,e2,e3⟩:=ih1 q hq
     exact⟨d',e1,e2,fun hm=>e3 (lA _ hm)⟩
   ·cases i with
    |zero=>
     cases j with
     |zero=>rfl
     |succ j=>
      simp at hi hj
      subst hi
      obtain⟨d',e1,_,e3⟩:=ih1 p (pM hj)
      rw [hd,e1]at hdp
      have e4:d=d' :=by simpa using hdp
      exact absurd (by rw [e4];exact lr ..) e3
    |succ i=>
     cases j with
     |zero=>
      simp at hi hj
      subst hj
      obtain⟨d',e1,_,e3⟩:=ih1 q (pM hi)
      rw [hd,e1]at hdp
      have e4:d' =d:=by simpa using hdp
      exact absurd (by rw [e4];exact lr ..) e3
     |succ j=>rw [ih2 i j q p (by simpa using hi) (by simpa using hj) hdp]

structure DJ(E:En)(O:List OE)(G:gT)(l:List Oper)(ts:List Ty)(done:Array Bool)(a:Act)(w:World)(S:SH):Prop where
 ext:dQ E.B E.w0 E.S0 w S
 sat:eM w S
 own:ck E.base E.B w S O
 size:a.tmps.size=E.N.n
 defers:a.defers=E.N.ds
 dsz:done.size=l.length
 down: ∀j o,l[j]? =some o→done.getD j false=true→ ∀e∈o.after,Region.binds .any e=true→done.getD e.on false=true
 old: ∀k t,look G k=some t→(∀j o,l[j]? =some o→done.getD j false=true→o.dst≠some k)→t.p S (a.tmps.getD k undef)
 new: ∀j o d t,l[j]? =some o→done.getD j false=true→o.dst=some d→ts[j]? =some t→t.p S (a.tmps.getD d undef)
theorem DJ.need{E:En}{l:List Oper}(h:DJ E O G l ts done a w S)(hi:l[i]? =some o)(hun:done.getD i true=false)(hwait: ∀e∈o.after,Region.binds .any e=true→done.getD e.on false=true){needs:List Nd}(h1:na G ts needs)(h2:(needs.all (kz l o i))=true):cJ E.N S a (fk needs):=by
 have hlt:i<done.size:=by rw [h.dsz];exact(md.1 hi).1
 have hun' :done.getD i false=false:=by
  simp [hlt]at hun ⊢;exact hun
 refine⟨h.size,h.defers,?_⟩
 have key: ∀n∈needs,n.ty.p S (a.tmps.getD n.slot undef):=by
  intro n hn
  have hs:=kV.1 h2 n hn
  have ho:=h1.mem n hn
  unfold kz at hs
  unfold qB at ho
  cases hsrc:n.src with
  |some j=>
   rw [hsrc]at hs ho
   simp only [ki]at hs
   obtain⟨hs1,hs2⟩:=hs
   cases hj:l[j]? with
   |none=>rw [hj]at hs1;cases hs1
   |some p=>
    rw [hj]at hs1
    cases hd:p.dst with
    |none=>simp only [hd]at hs1;cases hs1
    |some d=>
     simp only [hd]at hs1
     have hd' :=q8 hs1
     subst hd'
     have hdone:done.getD j false=true:=by
      unfold ud at hs2
      obtain⟨e,he0,hb⟩:=vu.1 hs2
      have he:e∈o.after:=by simpa using he0
      simp only [ki]at hb
      have:=hwait e he hb.2
      rwa [q8 hb.1]at this
     exact h.new j p n.slot n.ty hj hdone hd ho
  |none=>
   rw [hsrc]at hs ho
   refine h.old _ _ ho fun j p hj hdone hd=>?_
   have:=kV.1 hs p (pM hj)
   simp only [hd,Nat.beq_refl,vn,vp]at this
   unfold ud at this
   obtain⟨e,he0,hb⟩:=vu.1 this
   have he:e∈p.after:=by simpa using he0
   simp only [ki]at hb
   have h3:=h.down j p hj hdone e he hb.2
   rw [q8 hb.1]at h3
   rw [h3]at hun'
   cases hun'
 clear h1 h2
 intro k t hk
 induction needs with
 |nil=>simp [fk,look]at hk
 |cons n needs ih=>
  unfold fk look at hk
  by_cases hb:Nat.beq n.slot k=true
  ·rw [hb]at hk
   have:=q8 hb
   subst this
   have e:n.ty=t:=by simpa using hk
   rw [←e]
   exact key n (lr ..)
  ·rw [rs]at hb
   rw [hb]at hk
   exact ih (fun m hm=>key m (lA _ hm)) hk
def BL:List Oper→List Ty→gT→gT
 |o::l,t::ts,G=>(Hs o,t)::BL l ts G
 |_,_,G=>G
theorem xJ(l:List Oper): ∀(ts:List Ty) (k:Nat) (t:Ty),(∀o:Oper,o∈l→o.dst≠none)→ts.length=l.length→look (BL l ts G) k=some t→
  (∃(j:Nat) (o:Oper),l[j]? =some o∧o.dst=some k∧ts[j]? =some t)∨(look G k=some t∧ ∀o:Oper,o∈l→o.dst≠some k):=by
 induction l with
 |nil=>
  intro ts k t _ hl h
  have:ts=[]:=th (by simpa using hl)
  subst this
  exact .inr ⟨h,fun _ h=>(by cases h)⟩
 |cons o l ih=>
  intro ts k t hne hl h
  cases ts with
  |nil=>simp at hl
  |cons u ts=>
   unfold BL look at h
   by_cases hb:Nat.beq (Hs o) k=true
   ·rw [hb]at h
    have hk:=q8 hb
    refine .inl ⟨0,o,rfl,?_,by simpa using h⟩
    cases hd:o.dst with
    |none=>exact absurd hd (hne o (lr ..))
    |some d=>simp only [Hs,hd,Option.getD_some]at hk;rw [hk]
   ·rw [rs]at hb
    rw [hb]at h
    rcases ih ts k t (fun p hp=>hne p (lA _ hp)) (by simpa using hl) h with⟨j,p,h1,h2,h3⟩|⟨h1,h2⟩
    ·exact .inl ⟨j+1,p,by simpa using h1,h2,by simpa using h3⟩
    ·refine .inr ⟨h1,fun p hp hd=>?_⟩
     rcases lM.1 hp with rfl|hp
     ·simp [Hs,hd]at hb
     ·exact h2 p hp hd
theorem lw(hd:d<a.tmps.size):(a.put (some d) v).tmps.getD k undef=if d=k then v else a.tmps.getD k undef:=by
 by_cases h:d=k
 ·subst h;simp [Act.put,yq,hd]
 ·simp [Act.put,yq,h]
theorem DJ.step{E:En}{l:List Oper}(h:DJ E O G l ts done a w S)(hsl:oJ E.N.n [] l=true)(hi:l[i]? =some o)(hwait: ∀e∈o.after,Region.binds .any e=true→done.getD e.on false=true)(ht:ts[i]? =some t)(hun:done.getD i true=false)(hext:dQ kq w S w' S')(hsat:eM w' S')(hv:t.p S' v):DJ E O G l ts (done.setIfInBounds i true) (a.put o.dst v) w' S' :=by
 obtain⟨hs1,hs2⟩:=pS l [] hsl
 obtain⟨d,hd,hdN,_⟩:=hs1 o (pM hi)
 have hda:d<a.tmps.size:=by rw [h.size];exact hdN
 have hlt:i<done.size:=by rw [h.dsz];exact(md.1 hi).1
 have hset: ∀j,(done.setIfInBounds i true).getD j false=true→j=i∨done.getD j false=true:=fun j hj=>by
  by_cases hij:i=j
  ·exact .inl hij.symm
  ·rw [td false hij]at hj;exact .inr hj
 have hseti:(done.setIfInBounds i true).getD i false=true:=by simp [hlt]
 have hun' :done.getD i false=false:=by simp [hlt]at hun ⊢;exact hun
 refine⟨h.ext.step0 hext,hsat,h.own.ext0 hext,?_,?_,by simp [h.dsz],fun j p hj hdone e he hb=>?_,fun k u hk hno=>?_,fun j p d' u hj hdone hd' hu=>?_⟩
 ·rw [hd];simp [Act.put,h.size]
 ·rw [hd];exact h.defers
 ·rcases hset j hdone with rfl|hj'
  ·rw [hi]at hj
   have:o=p:=by simpa using hj
   subst this
   exact oC (hwait e he hb)
  ·exact oC (h.down j p hj hj' e he hb)
 ·have hne:d≠k:=fun e=>hno i o hi hseti (by rw [hd,e])
  rw [hd,lw hda,cM hne]
  exact u.mono hext.keep (h.old k u hk fun j p hj hdone=>hno j p hj (oC hdone))
 ·rw [hd,lw hda]
  rcases hset j hdone with rfl|hj'
  ·rw [hi]at hj
   have:o=p:=by simpa using hj
   subst this
   rw [hd]at hd'
   have:d=d' :=by simpa using hd'
   subst this
   rw [cU rfl]
   rw [ht]at hu
   have:t=u:=by simpa using hu
   subst this
   exact hv
  ·have hne:d≠d' :=fun e=>by
    subst e
    have:=hs2 i j o p hi hj (by rw [hd,hd'])
    subst this
    rw [hj']at hun';cases hun'
   rw [cM hne]
   exact u.mono hext.keep (h.new j p d' u hj hj' hd' hu)
theorem AR{l:List Oper}{done:Array Bool}(hsz:done.size=l.length)(hedge: ∀i o,l[i]? =some o→dh i o=true)(hr:Region.ready .any l.toArray done=[]): ∀n i,i<n→i<l.length→done.getD i false=true
 |0,i,h,_=>by omega
 |n+1,i,h,hi=>by
  have ih:=AR hsz hedge hr n
  by_cases hd:done.getD i true=true
  ·have:i<done.size:=by omega
   simp [this]at hd ⊢;exact hd
  ·exfalso
   have hmem:i∈Region.ready .any l.toArray done:=by
    rw [rr]
    refine⟨by simpa using hd,l[i],by simp [hi],fun e he hb=>?_⟩
    have:=hedge i l[i] (by simp [hi])
    unfold dh at this
    have:=kV.1 this e (by simpa using he)
    simp only [hb,vn,vp,oa]at this
    exact ih e.on (by omega) (by omega)
   rw [hr]at hmem
   cases hmem
def gk(done:Array Bool):Nat:=done.toList.countP (· ==false)
theorem kZ(h:done.getD i true=false):gk (done.setIfInBounds i true)+1=gk done:=by
 have hlt:i<done.size:=by
  rcases jV i done.size with h' |h'
  ·exact h'
  ·simp [Array.getElem?_eq_none h']at h
 have hv:done[i]=false:=by simpa [hlt] using h
 unfold gk
 rw [Array.toList_setIfInBounds,List.countP_set (by simpa using hlt)]
 have h2:(done.toList[i]'(by simpa using hlt))=false:=by simpa using hv
 have hpos:0<done.toList.countP (· ==false):=List.countP_pos_iff.2 ⟨done.toList[i]'(by simpa using hlt),List.getElem_mem _,by rw [h2];rfl⟩
 rw [h2,cU (show(false==false)=true from rfl),cM (show¬((true==false)=true) by decide)]
 omega
theorem Br{E:En}{l:List Oper}(hsl:oJ E.N.n [] l=true)(hd:DR E O G l ts 0 l)(hQ: ∀done a w S,DJ E O G l ts done a w S→(∀i,i<l.length→done.getD i false=true)→Q .normal a w):
  ∀(fuel:Nat) (done:Array Bool) (a:Act) (w:World) (S:SH),gk done=fuel→DJ E O G l ts done a w S→wpAnyIn (fw E.r) 0 E.P .any l.toArray Q fuel done a w:=by
 have hedge: ∀i o,l[i]? =some o→dh i o=true:=fun i o hi=>by
  obtain⟨_,_,_,_,_,h,_⟩:=DR.get l 0 hd i o hi
  simpa using h
 have fin: ∀done a w S,DJ E O G l ts done a w S→Region.ready .any l.toArray done=[]→Q .normal a w:=fun done a w S h hr=>
  hQ done a w S h fun i hi=>AR h.dsz hedge hr (i+1) i (by omega) hi
 intro fuel
 induction fuel with
 |zero=>
  intro done a w S hu h
  have hr:Region.ready .any l.toArray done=[]:=by
   cases hr:Region.ready .any l.toArray done with
   |nil=>rfl
   |cons i r=>
    have hm:i∈Region.ready .any l.toArray done:=by rw [hr];exact lr ..
    have:=kZ (rr.1 hm).1
    omega
  exact⟨hr,fin done a w S h hr⟩
 |succ fuel ih=>
  intro done a w S hu h
  refine⟨fin done a w S h,fun i hi=>?_⟩
  obtain⟨hun,o,ho,hwait⟩:=rr.1 hi
  have ho' :l[i]? =some o:=by simpa using ho
  obtain⟨needs,t,h1,h2,h3,_,h5⟩:=DR.get l 0 hd i o ho'
  rw [pL]at h1 h3
  have hF:=h.need ho' hun hwait h2 h3
  have h6:=h5 a w S h.sat h.own hF
  have hu' :gk (done.setIfInBounds i true)=fuel:=by have:=kZ hun;omega
  unfold wpOpIn
  rw [ho]
  show if _ then _ else _
  by_cases hw:Region.wanted o (yielded l.toArray a.tmps)=true
  ·rw [cU hw]at h6 ⊢
   refine fZ (fun a' w' ⟨v,S',ha,he,hs,hv⟩=>?_) h6
   subst ha
   exact ih _ _ _ S' hu' (h.step hsl ho' hwait h1 hun he hs hv)
  ·rw [cM hw]at h6 ⊢
   exact⟨fun _ _=>trivial,ih _ _ _ S hu' (h.step hsl ho' hwait h1 hun (dE _ _ _) h.sat h6)⟩
section
variable{E:En}
theorem eR{id:Nat}{l:List Oper}(hm:E.P.follows .mixedOrders=true)(hsl:oJ E.N.n [] l=true)(hlen:ts.length=l.length)(hd:DR E O G l ts 0 l)(k:AT E Q .normal O (BL l ts G)):
  CG E Q (.region id l.toArray true) O G:=fun a w S st=>by
 refine wpIn_region_any hm ?_
 obtain⟨he,hs⟩:=qD (w:=w) st.sat
 refine Br hsl hd (fun done a w S h hall=>k a w S ⟨h.ext,h.sat,h.own,h.size,h.defers,fun j t hj=>?_⟩) _ _ _ _ S ?_
  ⟨st.ext.step0 he,hs,st.own.ext0 he,st.facts.size,st.facts.defers,by simp,fun j o hj hdone=>?_,fun k t hk _=>st.facts.at_ k t hk,fun j o d t hj hdone=>?_⟩
 ·obtain⟨hs1,_⟩:=pS l [] hsl
  rcases xJ l ts j t (fun o ho e=>by obtain⟨d,hd,_⟩:=hs1 o ho;rw [hd]at e;cases e) hlen hj with⟨i,o,h1,h2,h3⟩|⟨h1,h2⟩
  ·exact h.new i o j t h1 (hall i (md.1 h1).1) h2 h3
  ·exact h.old j t h1 fun i o ho _=>h2 o (pM ho)
 ·unfold gk;rw [Cs,Cq];simp
 ·simp [rt]at hdone
  split at hdone<;>simp at hdone
 ·simp [rt]at hdone
  split at hdone<;>simp at hdone
theorem ae{need:gT}(hg:o.guard=none)(h:bH E O need o t):bL E O ops need o t:=fun a w S hs ho hf=>by
 have:Region.wanted o (yielded ops a.tmps)=true:=by unfold Region.wanted;rw [hg]
 rw [this,cU rfl]
 exact h a w S hs ho hf
theorem uL{l:List Oper}{need:gT}{c:Bool}(hg:o.guard=some (j,pol))(hj:((l.toArray)[j]?).bind (·.dst)=some gs)(hgs:Nat.blt gs E.N.n=true)(hb:aG E.N need (.tmp gs) (nB c b))(h:(c&&(b==pol))=true→bH E O need o t):bL E O l.toArray need o (k6 (c&&(b==pol)) t):=fun a w S hs ho hf=>by
 have hw:=oF (ops:=l.toArray) hg hj (by rw [hf.size];simpa [oa] using hgs) (hb S a hf)
 rw [hw]
 by_cases hc:(c&&(b==pol))=true
 ·rw [cU hc]
  refine jv (fun a' w' ⟨v,S',ha,he,hs,hv⟩=>⟨v,S',ha,he,hs,?_⟩) (h hc a w S hs ho hf)
  show if _ then _ else _
  rw [cU hc];exact hv
 ·rw [cM hc]
  show if _ then _ else _
  rw [cM hc]
end
variable{α0 α1 α2 α3 α4 α5:Type}{Gf:α0→α1→α2→α3→α4→α5→gT}{Of:α0→α1→α2→α3→α4→α5→List OE}{α6:Type}
section
variable{E:En}
theorem yg{id:Nat}{Z:Prop}{Of:List OE}{Gf:gT}(hK:Z→AT E Q .normal (Of) (Gf))(h:(Z→AT E Q .normal (Of) (Gf))→CG E (Exit.inBlock id Q) c O G):CG E Q (.block id c) O G:=ax (h hK)
theorem Em{x y:Code}{Z:Prop}{Of:List OE}{Gf:gT}(hK:Z→CG E Q y (Of) (Gf))
  (h:(Z→AT E (Exit.then (y.wpIn (fw E.r) 0 E.P Q) Q) .normal (Of) (Gf))→CG E (Exit.then (y.wpIn (fw E.r) 0 E.P Q) Q) x O G):CG E Q (.seq x y) O G:=af (h (fun hz=>hK hz))
theorem dS{Z:List β→α0→Prop}{Of:List β→α0→List OE}{Gf:List β→α0→gT}(h0: ∀x0,Z [] x0→LG E Q c (Of [] x0) (Gf [] x0))(h: ∀b l,(∀x0,Z l x0→LG E Q c (Of l x0) (Gf l x0))→ ∀x0,Z (b::l) x0→LG E Q c (Of (b::l) x0) (Gf (b::l) x0)): ∀l,∀x0,Z l x0→LG E Q c (Of l x0) (Gf l x0)
 |[]=>h0
 |b::l=>h b l (dS h0 h l)
theorem C7{Z:Nat→α0→Prop}{Of:Nat→α0→List OE}{Gf:Nat→α0→gT}(h0: ∀x0,Z 0 x0→LG E Q c (Of 0 x0) (Gf 0 x0))(h: ∀n,(∀x0,Z n x0→LG E Q c (Of n x0) (Gf n x0))→ ∀x0,Z (n+1) x0→LG E Q c (Of (n+1) x0) (Gf (n+1) x0)): ∀n,∀x0,Z n x0→LG E Q c (Of n x0) (Gf n x0)
 |0=>h0
 |n+1=>h n (C7 h0 h n)
theorem yf{id:Nat}{Z:α0→Prop}{Of:α0→List OE}{Gf:α0→gT}(hK: ∀x0,Z x0→AT E Q .normal (Of x0) (Gf x0))(h:(∀x0,Z x0→AT E Q .normal (Of x0) (Gf x0))→CG E (Exit.inBlock id Q) c O G):CG E Q (.block id c) O G:=ax (h hK)
theorem fX{x y:Code}{Z:α0→Prop}{Of:α0→List OE}{Gf:α0→gT}(hK: ∀x0,Z x0→CG E Q y (Of x0) (Gf x0))(h:(∀x0,Z x0→AT E (Exit.then (y.wpIn (fw E.r) 0 E.P Q) Q) .normal (Of x0) (Gf x0))→CG E (Exit.then (y.wpIn (fw E.r) 0 E.P Q) Q) x O G):CG E Q (.seq x y) O G:=af (h (fun x0=>fun hz=>hK x0 hz))
theorem iv{Z:List β→α0→α1→Prop}{Of:List β→α0→α1→List OE}{Gf:List β→α0→α1→gT}(h0: ∀x0 x1,Z [] x0 x1→LG E Q c (Of [] x0 x1) (Gf [] x0 x1))(h: ∀b l,(∀x0 x1,Z l x0 x1→LG E Q c (Of l x0 x1) (Gf l x0 x1))→ ∀x0 x1,Z (b::l) x0 x1→LG E Q c (Of (b::l) x0 x1) (Gf (b::l) x0 x1)): ∀l,∀x0 x1,Z l x0 x1→LG E Q c (Of l x0 x1) (Gf l x0 x1)
 |[]=>h0
 |b::l=>h b l (iv h0 h l)
theorem Er{id:Nat}{Z:α0→α1→Prop}{Of:α0→α1→List OE}{Gf:α0→α1→gT}(hK: ∀x0 x1,Z x0 x1→AT E Q .normal (Of x0 x1) (Gf x0 x1))(h:(∀x0 x1,Z x0 x1→AT E Q .normal (Of x0 x1) (Gf x0 x1))→CG E (Exit.inBlock id Q) c O G):CG E Q (.block id c) O G:=ax (h hK)
theorem C9{Z:Nat→α0→α1→α2→Prop}{Of:α0→α1→α2→List OE}{Gf:α0→α1→α2→gT}(h0: ∀x0 x1 x2,Z 0 x0 x1 x2→False)(h: ∀n,(∀x0 x1 x2,Z n x0 x1 x2→LG E Q c (Of x0 x1 x2) (Gf x0 x1 x2))→ ∀x0 x1 x2,Z (n+1) x0 x1 x2→LG E Q c (Of x0 x1 x2) (Gf x0 x1 x2)): ∀n,∀x0 x1 x2,Z n x0 x1 x2→LG E Q c (Of x0 x1 x2) (Gf x0 x1 x2)
 |0=>fun x0 x1 x2 hz=>(h0 x0 x1 x2 hz).elim
 |n+1=>h n (C9 h0 h n)
theorem kR{Z:List β→α0→α1→α2→Prop}{Of:List β→α0→α1→α2→List OE}{Gf:List β→α0→α1→α2→gT}(h0: ∀x0 x1 x2,Z [] x0 x1 x2→LG E Q c (Of [] x0 x1 x2) (Gf [] x0 x1 x2))(h: ∀b l,(∀x0 x1 x2,Z l x0 x1 x2→LG E Q c (Of l x0 x1 x2) (Gf l x0 x1 x2))→ ∀x0 x1 x2,Z (b::l) x0 x1 x2→LG E Q c (Of (b::l) x0 x1 x2) (Gf (b::l) x0 x1 x2)): ∀l,∀x0 x1 x2,Z l x0 x1 x2→LG E Q c (Of l x0 x1 x2) (Gf l x0 x1 x2)
 |[]=>h0
 |b::l=>h b l (kR h0 h l)
theorem C6{Z:Nat→α0→α1→α2→Prop}{Of:Nat→α0→α1→α2→List OE}{Gf:Nat→α0→α1→α2→gT}(h0: ∀x0 x1 x2,Z 0 x0 x1 x2→LG E Q c (Of 0 x0 x1 x2) (Gf 0 x0 x1 x2))(h: ∀n,(∀x0 x1 x2,Z n x0 x1 x2→LG E Q c (Of n x0 x1 x2) (Gf n x0 x1 x2))→ ∀x0 x1 x2,Z (n+1) x0 x1 x2→LG E Q c (Of (n+1) x0 x1 x2) (Gf (n+1) x0 x1 x2)): ∀n,∀x0 x1 x2,Z n x0 x1 x2→LG E Q c (Of n x0 x1 x2) (Gf n x0 x1 x2)
 |0=>h0
 |n+1=>h n (C6 h0 h n)
theorem El{x y:Code}{Z:α0→α1→α2→Prop}{Of:α0→α1→α2→List OE}{Gf:α0→α1→α2→gT}(hK: ∀x0 x1 x2,Z x0 x1 x2→CG E Q y (Of x0 x1 x2) (Gf x0 x1 x2))(h:(∀x0 x1 x2,Z x0 x1 x2→AT E (Exit.then (y.wpIn (fw E.r) 0 E.P Q) Q) .normal (Of x0 x1 x2) (Gf x0 x1 x2))→CG E (Exit.then (y.wpIn (fw E.r) 0 E.P Q) Q) x O G):CG E Q (.seq x y) O G:=af (h (fun x0 x1 x2=>fun hz=>hK x0 x1 x2 hz))
theorem zA{Z:Nat→α0→α1→α2→α3→Prop}{Of:α0→α1→α2→α3→List OE}{Gf:α0→α1→α2→α3→gT}(h0: ∀x0 x1 x2 x3,Z 0 x0 x1 x2 x3→False)(h: ∀n,(∀x0 x1 x2 x3,Z n x0 x1 x2 x3→LG E Q c (Of x0 x1 x2 x3) (Gf x0 x1 x2 x3))→ ∀x0 x1 x2 x3,Z (n+1) x0 x1 x2 x3→LG E Q c (Of x0 x1 x2 x3) (Gf x0 x1 x2 x3)): ∀n,∀x0 x1 x2 x3,Z n x0 x1 x2 x3→LG E Q c (Of x0 x1 x2 x3) (Gf x0 x1 x2 x3)
 |0=>fun x0 x1 x2 x3 hz=>(h0 x0 x1 x2 x3 hz).elim
 |n+1=>h n (zA h0 h n)
theorem kQ{Z:List β→α0→α1→α2→α3→Prop}{Of:List β→α0→α1→α2→α3→List OE}{Gf:List β→α0→α1→α2→α3→gT}(h0: ∀x0 x1 x2 x3,Z [] x0 x1 x2 x3→LG E Q c (Of [] x0 x1 x2 x3) (Gf [] x0 x1 x2 x3))(h: ∀b l,(∀x0 x1 x2 x3,Z l x0 x1 x2 x3→LG E Q c (Of l x0 x1 x2 x3) (Gf l x0 x1 x2 x3))→ ∀x0 x1 x2 x3,Z (b::l) x0 x1 x2 x3→LG E Q c (Of (b::l) x0 x1 x2 x3) (Gf (b::l) x0 x1 x2 x3)): ∀l,∀x0 x1 x2 x3,Z l x0 x1 x2 x3→LG E Q c (Of l x0 x1 x2 x3) (Gf l x0 x1 x2 x3)
 |[]=>h0
 |b::l=>h b l (kQ h0 h l)
theorem Ep{id:Nat}{Z:α0→α1→α2→α3→Prop}{Of:α0→α1→α2→α3→List OE}{Gf:α0→α1→α2→α3→gT}(hK: ∀x0 x1 x2 x3,Z x0 x1 x2 x3→AT E Q .normal (Of x0 x1 x2 x3) (Gf x0 x1 x2 x3))(h:(∀x0 x1 x2 x3,Z x0 x1 x2 x3→AT E Q .normal (Of x0 x1 x2 x3) (Gf x0 x1 x2 x3))→CG E (Exit.inBlock id Q) c O G):CG E Q (.block id c) O G:=ax (h hK)
theorem qC{Z:List β→α0→α1→α2→α3→α4→Prop}{Of:List β→α0→α1→α2→α3→α4→List OE}{Gf:List β→α0→α1→α2→α3→α4→gT}(h0: ∀x0 x1 x2 x3 x4,Z [] x0 x1 x2 x3 x4→LG E Q c (Of [] x0 x1 x2 x3 x4) (Gf [] x0 x1 x2 x3 x4))(h: ∀b l,(∀x0 x1 x2 x3 x4,Z l x0 x1 x2 x3 x4→LG E Q c (Of l x0 x1 x2 x3 x4) (Gf l x0 x1 x2 x3 x4))→ ∀x0 x1 x2 x3 x4,Z (b::l) x0 x1 x2 x3 x4→LG E Q c (Of (b::l) x0 x1 x2 x3 x4) (Gf (b::l) x0 x1 x2 x3 x4)): ∀l,∀x0 x1 x2 x3 x4,Z l x0 x1 x2 x3 x4→LG E Q c (Of l x0 x1 x2 x3 x4) (Gf l x0 x1 x2 x3 x4)
 |[]=>h0
 |b::l=>h b l (qC h0 h l)
theorem C8{Z:Nat→α0→α1→α2→α3→α4→α5→Prop}(h0: ∀x0 x1 x2 x3 x4 x5,Z 0 x0 x1 x2 x3 x4 x5→False)(h: ∀n,(∀x0 x1 x2 x3 x4 x5,Z n x0 x1 x2 x3 x4 x5→LG E Q c (Of x0 x1 x2 x3 x4 x5) (Gf x0 x1 x2 x3 x4 x5))→ ∀x0 x1 x2 x3 x4 x5,Z (n+1) x0 x1 x2 x3 x4 x5→LG E Q c (Of x0 x1 x2 x3 x4 x5) (Gf x0 x1 x2 x3 x4 x5)): ∀n,∀x0 x1 x2 x3 x4 x5,Z n x0 x1 x2 x3 x4 x5→LG E Q c (Of x0 x1 x2 x3 x4 x5) (Gf x0 x1 x2 x3 x4 x5)
 |0=>fun x0 x1 x2 x3 x4 x5 hz=>(h0 x0 x1 x2 x3 x4 x5 hz).elim
 |n+1=>h n (C8 h0 h n)
theorem A4{Z:List β→α0→α1→α2→α3→α4→α5→Prop}{Of:List β→α0→α1→α2→α3→α4→α5→List OE}{Gf:List β→α0→α1→α2→α3→α4→α5→gT}(h0: ∀x0 x1 x2 x3 x4 x5,Z [] x0 x1 x2 x3 x4 x5→LG E Q c (Of [] x0 x1 x2 x3 x4 x5) (Gf [] x0 x1 x2 x3 x4 x5))(h: ∀b l,(∀x0 x1 x2 x3 x4 x5,Z l x0 x1 x2 x3 x4 x5→LG E Q c (Of l x0 x1 x2 x3 x4 x5) (Gf l x0 x1 x2 x3 x4 x5))→ ∀x0 x1 x2 x3 x4 x5,Z (b::l) x0 x1 x2 x3 x4 x5→LG E Q c (Of (b::l) x0 x1 x2 x3 x4 x5) (Gf (b::l) x0 x1 x2 x3 x4 x5)): ∀l,∀x0 x1 x2 x3 x4 x5,Z l x0 x1 x2 x3 x4 x5→LG E Q c (Of l x0 x1 x2 x3 x4 x5) (Gf l x0 x1 x2 x3 x4 x5)
 |[]=>h0
 |b::l=>h b l (A4 h0 h l)
theorem ye{id:Nat}{Z:α0→α1→α2→α3→α4→α5→Prop}(hK: ∀x0 x1 x2 x3 x4 x5,Z x0 x1 x2 x3 x4 x5→AT E Q .normal (Of x0 x1 x2 x3 x4 x5) (Gf x0 x1 x2 x3 x4 x5))(h:(∀x0 x1 x2 x3 x4 x5,Z x0 x1 x2 x3 x4 x5→AT E Q .normal (Of x0 x1 x2 x3 x4 x5) (Gf x0 x1 x2 x3 x4 x5))→CG E (Exit.inBlock id Q) c O G):CG E Q (.block id c) O G:=ax (h hK)
theorem Ek{x y:Code}{Z:α0→α1→α2→α3→α4→α5→Prop}(hK: ∀x0 x1 x2 x3 x4 x5,Z x0 x1 x2 x3 x4 x5→CG E Q y (Of x0 x1 x2 x3 x4 x5) (Gf x0 x1 x2 x3 x4 x5))(h:(∀x0 x1 x2 x3 x4 x5,Z x0 x1 x2 x3 x4 x5→AT E (Exit.then (y.wpIn (fw E.r) 0 E.P Q) Q) .normal (Of x0 x1 x2 x3 x4 x5) (Gf x0 x1 x2 x3 x4 x5))→CG E (Exit.then (y.wpIn (fw E.r) 0 E.P Q) Q) x O G):CG E Q (.seq x y) O G:=af (h (fun x0 x1 x2 x3 x4 x5=>fun hz=>hK x0 x1 x2 x3 x4 x5 hz))
theorem wC{Z:List β→α0→α1→α2→α3→α4→α5→α6→Prop}{Of:List β→α0→α1→α2→α3→α4→α5→α6→List OE}{Gf:List β→α0→α1→α2→α3→α4→α5→α6→gT}(h0: ∀x0 x1 x2 x3 x4 x5 x6,Z [] x0 x1 x2 x3 x4 x5 x6→LG E Q c (Of [] x0 x1 x2 x3 x4 x5 x6) (Gf [] x0 x1 x2 x3 x4 x5 x6))(h: ∀b l,(∀x0 x1 x2 x3 x4 x5 x6,Z l x0 x1 x2 x3 x4 x5 x6→LG E Q c (Of l x0 x1 x2 x3 x4 x5 x6) (Gf l x0 x1 x2 x3 x4 x5 x6))→ ∀x0 x1 x2 x3 x4 x5 x6,Z (b::l) x0 x1 x2 x3 x4 x5 x6→LG E Q c (Of (b::l) x0 x1 x2 x3 x4 x5 x6) (Gf (b::l) x0 x1 x2 x3 x4 x5 x6)): ∀l,∀x0 x1 x2 x3 x4 x5 x6,Z l x0 x1 x2 x3 x4 x5 x6→LG E Q c (Of l x0 x1 x2 x3 x4 x5 x6) (Gf l x0 x1 x2 x3 x4 x5 x6)
 |[]=>h0
 |b::l=>h b l (wC h0 h l)
theorem t7{x y:Code}{Z:α0→α1→α2→α3→α4→α5→α6→Prop}{Of:α0→α1→α2→α3→α4→α5→α6→List OE}{Gf:α0→α1→α2→α3→α4→α5→α6→gT}(hK: ∀x0 x1 x2 x3 x4 x5 x6,Z x0 x1 x2 x3 x4 x5 x6→CG E Q y (Of x0 x1 x2 x3 x4 x5 x6) (Gf x0 x1 x2 x3 x4 x5 x6))(h:(∀x0 x1 x2 x3 x4 x5 x6,Z x0 x1 x2 x3 x4 x5 x6→AT E (Exit.then (y.wpIn (fw E.r) 0 E.P Q) Q) .normal (Of x0 x1 x2 x3 x4 x5 x6) (Gf x0 x1 x2 x3 x4 x5 x6))→CG E (Exit.then (y.wpIn (fw E.r) 0 E.P Q) Q) x O G):CG E Q (.seq x y) O G:=af (h (fun x0 x1 x2 x3 x4 x5 x6=>fun hz=>hK x0 x1 x2 x3 x4 x5 x6 hz))
theorem A3{α7:Type}{Z:List β→α0→α1→α2→α3→α4→α5→α6→α7→Prop}{Of:List β→α0→α1→α2→α3→α4→α5→α6→α7→List OE}{Gf:List β→α0→α1→α2→α3→α4→α5→α6→α7→gT}(h0: ∀x0 x1 x2 x3 x4 x5 x6 x7,Z [] x0 x1 x2 x3 x4 x5 x6 x7→LG E Q c (Of [] x0 x1 x2 x3 x4 x5 x6 x7) (Gf [] x0 x1 x2 x3 x4 x5 x6 x7))(h: ∀b l,(∀x0 x1 x2 x3 x4 x5 x6 x7,Z l x0 x1 x2 x3 x4 x5 x6 x7→LG E Q c (Of l x0 x1 x2 x3 x4 x5 x6 x7) (Gf l x0 x1 x2 x3 x4 x5 x6 x7))→ ∀x0 x1 x2 x3 x4 x5 x6 x7,Z (b::l) x0 x1 x2 x3 x4 x5 x6 x7→LG E Q c (Of (b::l) x0 x1 x2 x3 x4 x5 x6 x7) (Gf (b::l) x0 x1 x2 x3 x4 x5 x6 x7)): ∀l,∀x0 x1 x2 x3 x4 x5 x6 x7,Z l x0 x1 x2 x3 x4 x5 x6 x7→LG E Q c (Of l x0 x1 x2 x3 x4 x5 x6 x7) (Gf l x0 x1 x2 x3 x4 x5 x6 x7)
 |[]=>h0
 |b::l=>h b l (A3 h0 h l)
theorem C5{α7 α8:Type}{Z:Nat→α0→α1→α2→α3→α4→α5→α6→α7→α8→Prop}{Of:Nat→α0→α1→α2→α3→α4→α5→α6→α7→α8→List OE}{Gf:Nat→α0→α1→α2→α3→α4→α5→α6→α7→α8→gT}(h0: ∀x0 x1 x2 x3 x4 x5 x6 x7 x8,Z 0 x0 x1 x2 x3 x4 x5 x6 x7 x8→LG E Q c (Of 0 x0 x1 x2 x3 x4 x5 x6 x7 x8) (Gf 0 x0 x1 x2 x3 x4 x5 x6 x7 x8))(h: ∀n,(∀x0 x1 x2 x3 x4 x5 x6 x7 x8,Z n x0 x1 x2 x3 x4 x5 x6 x7 x8→LG E Q c (Of n x0 x1 x2 x3 x4 x5 x6 x7 x8) (Gf n x0 x1 x2 x3 x4 x5 x6 x7 x8))→ ∀x0 x1 x2 x3 x4 x5 x6 x7 x8,Z (n+1) x0 x1 x2 x3 x4 x5 x6 x7 x8→LG E Q c (Of (n+1) x0 x1 x2 x3 x4 x5 x6 x7 x8) (Gf (n+1) x0 x1 x2 x3 x4 x5 x6 x7 x8)): ∀n,∀x0 x1 x2 x3 x4 x5 x6 x7 x8,Z n x0 x1 x2 x3 x4 x5 x6 x7 x8→LG E Q c (Of n x0 x1 x2 x3 x4 x5 x6 x7 x8) (Gf n x0 x1 x2 x3 x4 x5 x6 x7 x8)
 |0=>h0
 |n+1=>h n (C5 h0 h n)
end
theorem bs{α:Type _}{β:Type _}{x:Option α}{k:α→Option β}{r:β}(h:x.bind k=some r): ∃y,x=some y∧k y=some r:=by
 cases x with
 |none=>cases h
 |some y=>exact⟨y,rfl,h⟩
theorem ct{β:Type _}{x y:Option β}{r:β}(h:(if b=true then x else y)=some r)(hb:b=true):x=some r:=by rwa [cU hb]at h
theorem cf{β:Type _}{x y:Option β}{r:β}(h:(if b=true then x else y)=some r)(hb:b=false):y=some r:=by rwa [cM (by rw [hb];decide)]at h
theorem so{β:Type _}{x r:β}(h:some x=some r):x=r:=by simpa using h
theorem og [Inhabited α]{x:Option α}{k:α→Option β}{d:Option β}{r:β}(h:(if b=true then x.bind k else d)=some r): ∃y,(b=true→x=some y∧k y=some r)∧(b=false→d=some r):=by
 cases b with
 |true=>obtain⟨y,h1,h2⟩:=bs (ct h rfl);exact⟨y,fun _=>⟨h1,h2⟩,fun e=>(by cases e)⟩
 |false=>exact⟨default,fun e=>(by cases e),fun _=>cf h rfl⟩

def bO{α β:Type}(p:Rp α)(q:Rp β):Rp (α×β) where
 sz:=p.sz+q.sz
 agg:=true
 rc:=fun S cs x=> ∃a b,cs=a++b∧p.rc S a x.1∧q.rc S b x.2
 mono:=fun h ⟨a,b,e,h1,h2⟩=>⟨a,b,e,p.mono h h1,q.mono h h2⟩
 len:=fun⟨a,b,e,h1,h2⟩=>by rw [e,kW,p.len h1,q.len h2]
 one:=fun⟨a,b,e,h1,h2⟩ c hc=>by
  rw [e]at hc
  rcases vq.1 hc with h|h
  ·exact p.one h1 c h
  ·exact q.one h2 c h
 sc:=fun h=>by cases h
def iG{α β:Type}(p:Rp α)(f:β→α):Rp β where
 sz:=p.sz
 agg:=true
 rc:=fun S cs x=>p.rc S cs (f x)
 mono:=fun h k=>p.mono h k
 len:=fun h=>p.len h
 one:=fun h=>p.one h
 sc:=fun h=>by cases h
theorem bP{p:Rp α}{f:β→α}:ik (iG p f) 0 p f:=fun S cs x h=>by
 have h' :p.rc S cs (f x):=h
 have hl:=p.len h'
 rw [Bb,←hl,xd];exact h'
theorem cx{γ:Type}{p:Rp α}{q:Rp β}{r:Rp γ}{get:γ→α×β}(h:ik r off (bO p q) get):ik r off p (fun x=>(get x).1):=fun S cs x k=>by
 obtain⟨a,b,e,h1,h2⟩:=h S cs x k
 have hl:=p.len h1
 have hl2:=q.len h2
 have:(cs.drop off).take p.sz=a:=by
  have e2:=congrArg (List.take p.sz) e
  rw [wI,vt (by show p.sz≤p.sz+q.sz;omega),←hl,List.take_left]at e2
  rw [←hl];exact e2
 rw [this];exact h1
theorem aL{γ:Type}{p:Rp α}{q:Rp β}{r:Rp γ}{off' :Nat}{get:γ→α×β}(h:ik r off (bO p q) get)(ho:off' =off+p.sz):ik r off' q (fun x=>(get x).2):=fun S cs x k=>by
 obtain⟨a,b,e,h1,h2⟩:=h S cs x k
 have hl:=p.len h1
 have hl2:=q.len h2
 have:(cs.drop off').take q.sz=b:=by
  have e2:=congrArg (List.drop p.sz) e
  rw [zD,sd,←hl,List.drop_left]at e2
  rw [ho,←hl,←e2]
  congr 1
  show q.sz=p.sz+q.sz-a.length
  omega
 rw [this];exact h2

section
variable{E:En}
theorem HB{op:Op}{ty:TypeId}(hj:(ops[j]?).bind (·.dst)=some gs)(hgs:Nat.blt gs E.N.n=true)(hg:look G gs=some (tD rB b))(hd:Nat.blt d E.N.n=true)(h:b=true→bH E O G ⟨some d,op,ty,pos,after,some (j,true)⟩ t)(k:RG E ops Q rest O ((d,k6 b t)::G)):RG E ops Q (⟨some d,op,ty,pos,after,some (j,true)⟩::rest) O G:=by
 have e:(true&&(b==true))=b:=by cases b<;>rfl
 exact zw hj hgs (ke hg) hd (by rw [e];exact h) (by rw [e];exact k)
theorem HC{op:Op}{ty:TypeId}(hj:(ops[j]?).bind (·.dst)=some gs)(hgs:Nat.blt gs E.N.n=true)(hg:look G gs=some (tD rB b))(hd:Nat.blt d E.N.n=true)(h:(!b)=true→bH E O G ⟨some d,op,ty,pos,after,some (j,false)⟩ t)(k:RG E ops Q rest O ((d,k6 (!b) t)::G)):RG E ops Q (⟨some d,op,ty,pos,after,some (j,false)⟩::rest) O G:=by
 have e:(true&&(b==false))= !b:=by cases b<;>rfl
 exact zw hj hgs (ke hg) hd (by rw [e];exact h) (by rw [e];exact k)
theorem jl{c:Bool}{op:Op}{ty:TypeId}(hj:(ops[j]?).bind (·.dst)=some gs)(hgs:Nat.blt gs E.N.n=true)(hg:look G gs=some (k6 c (tD rB b)))(hd:Nat.blt d E.N.n=true)(h:(c&&b)=true→bH E O G ⟨some d,op,ty,pos,after,some (j,true)⟩ t)(k:RG E ops Q rest O ((d,k6 (c&&b) t)::G)):RG E ops Q (⟨some d,op,ty,pos,after,some (j,true)⟩::rest) O G:=by
 have e:(c&&(b==true))=(c&&b):=by cases b<;>rfl
 exact zw hj hgs (xN hg) hd (by rw [e];exact h) (by rw [e];exact k)
theorem ep{c:Bool}{op:Op}{ty:TypeId}(hj:(ops[j]?).bind (·.dst)=some gs)(hgs:Nat.blt gs E.N.n=true)(hg:look G gs=some (k6 c (tD rB b)))(hd:Nat.blt d E.N.n=true)(h:(c&& !b)=true→bH E O G ⟨some d,op,ty,pos,after,some (j,false)⟩ t)(k:RG E ops Q rest O ((d,k6 (c&& !b) t)::G)):RG E ops Q (⟨some d,op,ty,pos,after,some (j,false)⟩::rest) O G:=by
 have e:(c&&(b==false))=(c&& !b):=by cases b<;>rfl
 exact zw hj hgs (xN hg) hd (by rw [e];exact h) (by rw [e];exact k)
theorem gz{l:List Oper}{need:gT}(hg:o.guard=some (j,true))(hj:((l.toArray)[j]?).bind (·.dst)=some gs)(hgs:Nat.blt gs E.N.n=true)(hb:look need gs=some (tD rB b))(h:b=true→bH E O need o t):bL E O l.toArray need o (k6 b t):=by
 have e:(true&&(b==true))=b:=by cases b<;>rfl
 have:=uL (t:=t) hg hj hgs (ke (E:=E) hb) (by rw [e];exact h)
 rwa [e]at this
theorem jm{l:List Oper}{need:gT}(hg:o.guard=some (j,false))(hj:((l.toArray)[j]?).bind (·.dst)=some gs)(hgs:Nat.blt gs E.N.n=true)(hb:look need gs=some (tD rB b))(h:(!b)=true→bH E O need o t):bL E O l.toArray need o (k6 (!b) t):=by
 have e:(true&&(b==false))= !b:=by cases b<;>rfl
 have:=uL (t:=t) hg hj hgs (ke (E:=E) hb) (by rw [e];exact h)
 rwa [e]at this
theorem w9{a:Bool}(h:a=true)(k:b=true):(a&&b)=true:=by rw [h,k];rfl
theorem pG{a:Bool}(h:a=false):(!a)=true:=by rw [h];rfl
theorem bt{c:Operand}{x y:Code}(hb:aG E.N G c (tD rB b))(h:b=true)(hx:CG E Q x O G):CG E Q (.cond c x y) O G:=kT hb (fun _=>hx) (fun e=>by rw [h]at e;cases e)
theorem bu{c:Operand}{x y:Code}(hb:aG E.N G c (tD rB b))(h:b=false)(hy:CG E Q y O G):CG E Q (.cond c x y) O G:=kT hb (fun e=>by rw [h]at e;cases e) (fun _=>hy)
end
theorem JP [Inhabited α]{x:Option α}{k:α→Option β}{r:β}(h:b=true→x.bind k=some r): ∃y,b=true→x=some y∧k y=some r:=by
 cases b with
 |true=>obtain⟨y,h1,h2⟩:=bs (h rfl);exact⟨y,fun _=>⟨h1,h2⟩⟩
 |false=>exact⟨default,fun e=>(by cases e)⟩
section
variable{E:En}{ty:TypeId}
theorem mL{c:Operand}(hc:aG E.N G c (tD rB b))(hx:b=true→aG E.N G x (tD rB q)):bH E O G ⟨dst,.pick c x (.const (.bool false)),ty,pos,after,g⟩ (tD rB (b&&q)):=by
 refine qL hc (fun h=>?_) (fun h=>?_)
 ·subst h;exact hx rfl
 ·subst h;exact hB
theorem oo{c:Operand}(hc:aG E.N G c (tD rB b))(hx:b=false→aG E.N G x (tD rB q)):bH E O G ⟨dst,.pick c (.const (.bool true)) x,ty,pos,after,g⟩ (tD rB (b||q)):=by
 refine qL hc (fun h=>?_) (fun h=>?_)
 ·subst h;exact hB
 ·subst h;exact hx rfl
theorem dZ{c:Operand}{t:Bool}(hc:aG E.N G c (tD rB b))(hx:b=true→aG E.N G x (tD rB q))(e1:b=true→some q=some t)(e0:b=false→some false=some t):bH E O G ⟨dst,.pick c x (.const (.bool false)),ty,pos,after,g⟩ (tD rB t):=by
 refine qL hc (fun h=>?_) (fun h=>?_)
 ·rw [←so (e1 h)];exact hx h
 ·rw [←so (e0 h)];exact hB
theorem ez{c:Operand}{t:Bool}(hc:aG E.N G c (tD rB b))(hx:b=false→aG E.N G x (tD rB q))(e1:(!b)=true→some q=some t)(e0:(!b)=false→some true=some t):bH E O G ⟨dst,.pick c (.const (.bool true)) x,ty,pos,after,g⟩ (tD rB t):=by
 refine qL hc (fun h=>?_) (fun h=>?_)
 ·rw [←so (e0 (by rw [h];rfl))];exact hB
 ·rw [←so (e1 (by rw [h];rfl))];exact hx h
theorem v6(hi:ts[i]? =some t)(hx:aG E.N G x (tT ts)):bH E O G ⟨dst,.extract x i,ty,pos,after,g⟩ t:=
 .of_pure fun a w S _ _ hf=>by
  obtain⟨vs,h1,h2⟩:=hx S a hf
  obtain⟨v,h3,h4⟩:=h2.at_ i t hi
  exact⟨v,by simp [execOp,h1,Instr.extract,h3],h4⟩
theorem ve{k:IntKind}{m n:Int}(hx:aG E.N G x (tD (rI k) m))(hy:aG E.N G y (tD (rI k) n)):bH E O G ⟨dst,.call ⟨.builtin .max,#[x,y],ats⟩,ty,pos,after,g⟩ (tD (rI k) (max m n)):=
 .of_pure fun a w S _ _ hf=>by
  have h1:a.eval x= .int k m:=cQ.1 (hx S a hf)
  have h2:a.eval y= .int k n:=cQ.1 (hy S a hf)
  refine⟨.int k (if n>m then n else m),by simp [execOp,resolve,invoke,builtin,Builtin.max_,Builtin.max2,h1,h2],cQ.2 ?_⟩
  congr 1
  rw [Int.max_def]
  split<;>split<;>omega
theorem CF{k:IntKind}{m n:Int}(hx:aG E.N G x (tD (rI k) m))(hy:aG E.N G y (tD (rI k) n)):bH E O G ⟨dst,.call ⟨.builtin .min,#[x,y],ats⟩,ty,pos,after,g⟩ (tD (rI k) (min m n)):=
 .of_pure fun a w S _ _ hf=>by
  have h1:a.eval x= .int k m:=cQ.1 (hx S a hf)
  have h2:a.eval y= .int k n:=cQ.1 (hy S a hf)
  refine⟨.int k (if n<m then n else m),by simp [execOp,resolve,invoke,builtin,Builtin.min_,Builtin.min2,h1,h2],cQ.2 ?_⟩
  congr 1
  rw [Int.min_def]
  split<;>split<;>omega

def eN(P:Program){α β:Type}(args:α→List Ty)(res:β→Ty)(f:α→Option β):Ty where
 p:=fun S v=> ∃fid cap,v= .func (.func fid) #[] cap∧al P fid=true∧ ∀x y,f x=some y→ ∀w S' vs,kY S S' →eM w S' →pJ S' (args x) vs→
  Calls P fid (vs.toArray++cap) w fun e w' => ∃v S'',e= .returned v∧dQ kq w S' w' S'' ∧eM w' S'' ∧(res y).p S'' v
 mono:=fun h ⟨f,cap,e,hc,k⟩=>⟨f,cap,e,hc,fun x y hxy w S' vs hle=>k x y hxy w S' vs (SH.le_trans h hle)⟩
theorem IK{N:Fr}{P:Program}{f:α→Option β}{fid:FuncId}(hc:al P fid=true)(hs: ∀x y,f x=some y→bn P fid (args x) (res y)):aG N G (.func fid) (eN P args res f):=fun S a _=>
 ⟨fid,#[],rfl,hc,fun x y h w S' vs _ hsat hv=>by simpa using hs x y h w S' vs hsat hv⟩
theorem pJ.append: ∀{ts us:List Ty} {vs ws:List Value},pJ S ts vs→pJ S us ws→pJ S (ts++us) (vs++ws)
 |[],_,[],_,_,h=>h
 |_::_,_,_::_,_,⟨h1,h2⟩,h=>⟨h1,pJ.append h2 h⟩
theorem jd{f:α→Option β}{fid:FuncId}{caps:List Operand}{cts:List Ty}(hc:al E.P fid=true)(hcap:fq E.N G caps cts)(hs: ∀x y,f x=some y→bn E.P fid (args x++cts) (res y)):bH E O G ⟨dst,.makeFunc (.func fid) #[] caps.toArray,ty,pos,after,g⟩ (eN E.P args res f):=
 .of_pure fun a w S _ _ hf=>by
  refine⟨.func (.func fid) #[] (caps.map a.eval).toArray,by simp [execOp,Instr.makeFunc],fid,_,rfl,hc,fun x y h w' S' vs hle hsat hv=>?_⟩
  have hcv:=(hcap.tys hf).mono hle
  simpa using hs x y h w' S' _ hsat (hv.append hcv)
theorem gc{f:α→Option β}{fo:Operand}{x:α}{y:β}{xs:List Operand}(hfo:aG E.N G fo (eN E.P args res f))(h:f x=some y)(hx:fq E.N G xs (args x)):
  bH E O G ⟨dst,.call ⟨.value fo,xs.toArray,ats⟩,ty,pos,after,g⟩ (res y):=fun a w S hS _ hF=>by
 obtain⟨fid,cap,e,hc,hs⟩:=hfo S a hF
 have hr:(execOp a.eval ⟨dst,.call ⟨.value fo,xs.toArray,ats⟩,ty,pos,after,g⟩).run E.P w= .ok (.enter fid ((xs.map a.eval).toArray++cap)) w:=by
  simp [execOp,resolve,e,Deferred.ofValue,invoke,dL hc]
 refine⟨fun c h=>(by cases h),?_⟩
 rw [hr]
 exact(hs x y h w S _ (SH.le_refl _) hS (hx.tys hF)).mono fun e w' ⟨v,S',he,h1,h2,h3⟩=>⟨v,he,v,S',rfl,h1,h2,h3⟩
end
theorem bn.of{P:Program}{N:Nat}(hf:P.funcs[f]? =some fn)(hb:fn.body=some c)(hN:fn.ntmps=N)(hn:Nat.ble ts.length N=true)(h: ∀w0 S0,CG ⟨P,⟨N,[]⟩,kq,w0,S0,none⟩ (bodyPost P fn (AL ⟨P,⟨N,[]⟩,kq,w0,S0,none⟩ t)) c [] (nz 0 ts)):bn P f ts t:=by
 subst hN
 exact zt hf hb (kj hn) h
theorem nn{α:Type _}{r:α}(h:(none:Option α)=some r):False:=by cases h
theorem pI{N:Fr}:aG N G (.const (.slice none 0 0)) (tV (aC none 0 0)):=fun _ _ _=>rfl
def ni:Nat:=2^64
section
variable{E:En}{ty:TypeId}
theorem BM(l:Option Nat)(cap n:Nat)(h:l=none→n=0): ∃a c,aC l cap n= .slice a n c:=by
 cases l with
 |none=>rw [h rfl];exact⟨none,0,rfl⟩
 |some b=>exact⟨_,cap,rfl⟩
theorem eF{r:Rp α}{n:Nat}{t:TypeId}(ht:E.P.underlying t=some (.slice e))(hm:gQ mm r T l cap xs∈O)(hx:aG E.N G x (tV (aC l cap n)))(hn:n=xs.length:=by rfl):
  bH E O G ⟨dst,.call ⟨.builtin .len,#[x],#[t]⟩,ty,pos,after,g⟩ (tD (rI .i64) (n:Int)):=
 .of_pure fun a w S _ ho hf=>by
  have h1:a.eval x=aC l cap n:=hx S a hf
  have h2:=(ho.mem _ hm).1
  obtain⟨ad,c,h3⟩:=BM l cap n (fun e=>by subst e;obtain⟨_,h4,_⟩:=h2;rw [hn];exact h4.1)
  refine⟨.int .i64 n,?_,cQ.2 rfl⟩
  simp [execOp,resolve,invoke,builtin,Builtin.len_,lN ht,h1,h3,goInt]
end

structure F1(P:Program){α:Type} [DecidableEq α](t:TypeId)(r:Rp α):Prop where
 guard:P.eqGuardType P.depth t=false
 run: ∀(S:SH) (cs ds:List Value) (x y:α) (d:Nat) (w:World),r.rc S cs x→r.rc S ds y→(Op.equalIn (d+20) t (r.val cs) (r.val ds)).run P w= .ok (decide (x=y)) w
section
variable{E:En}{ty:TypeId}
theorem uD{P:Program}{t:TypeId}(h:P.eqGuardType P.depth t=false){op:BinOp}{x y:Operand}{u v:Array Value}{w:World}:(eqGuard op t x y (.agg u) (.agg v)).run P w= .ok () w:=by
 unfold eqGuard
 cases op<;>first|rfl|simp [h]
theorem mj{r:Rp α}(h:r.agg=true)(cs:List Value):r.val cs= .agg cs.toArray:=by unfold Rp.val;rw [cU h]
theorem CI [DecidableEq α]{r:Rp α}{m n:α}(he:F1 E.P xt r)(hx:aG E.N G x (tD r m))(hy:aG E.N G y (tD r n))(ha:r.agg=true:=by rfl):bH E O G ⟨dst,.binOp .eql xt x y yt,ty,pos,after,g⟩ (tD rB (decide (m=n))):=
 .of_pure fun a w S _ _ hf=>by
  obtain⟨cs,h1,h2⟩:=hx S a hf
  obtain⟨ds,h3,h4⟩:=hy S a hf
  refine⟨.bool (decide (m=n)),?_,fh.2 rfl⟩
  have hr:=he.run S cs ds m n 9980 w h2 h4
  have hg:= @uD E.P xt he.guard .eql x y cs.toArray ds.toArray w
  rw [mj ha,mj ha]at hr
  simp only [execOp,h1,h3,mj ha,lO,hg,mu,binOp,Op.equal,Op.maxDepth]
  rw [show(10000:Nat)=9980+20 from rfl,hr]
  simp
theorem CE [DecidableEq α]{r:Rp α}{m n:α}(he:F1 E.P xt r)(hx:aG E.N G x (tD r m))(hy:aG E.N G y (tD r n))(ha:r.agg=true:=by rfl):bH E O G ⟨dst,.binOp .neq xt x y yt,ty,pos,after,g⟩ (tD rB (!decide (m=n))):=
 .of_pure fun a w S _ _ hf=>by
  obtain⟨cs,h1,h2⟩:=hx S a hf
  obtain⟨ds,h3,h4⟩:=hy S a hf
  refine⟨.bool (!decide (m=n)),?_,fh.2 rfl⟩
  have hr:=he.run S cs ds m n 9980 w h2 h4
  have hg:= @uD E.P xt he.guard .neq x y cs.toArray ds.toArray w
  rw [mj ha,mj ha]at hr
  simp only [execOp,h1,h3,mj ha,lO,hg,mu,binOp,Op.equal,Op.maxDepth]
  rw [show(10000:Nat)=9980+20 from rfl,hr]
  simp
end
end Go.Proofs.YtnmjbolollcokaaGreatDoor

