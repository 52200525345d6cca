/- co of this claim: W1, W49, W2, W3, W4, W5, W6, W7, W8, W9. -/
import Derived.WalkKit
import Derived.Orders
import Derived.Shelf.Unicode.CaseTo
import Derived.Shelf.Unicode.DecodeSlow
import Derived.Lone
import Derived.RunT
import Derived.Calls
import Derived.RangeFuncIn
import Derived.TacticsIn
import Derived.OrdersIn
import Derived.LoopIn
import Derived.Laws.AppendOwn
import Derived.Deep.Upon
import Derived.Lib.AppendStr
set_option linter.all false
namespace Go.Proofs.YtmogpgcfognefaaGreatDoor
open Go
def cq:= @Option.bind_some
def kG:= @List.mem_cons_of_mem
def ox:= @List.getElem?_eq_some_iff
def gp:= @Nat.le_refl
def lV:= @List.mem_cons_self
def dd:= @if_neg
def pR:= @List.getElem?_eq_getElem
def dy:= @if_pos
def iP:= @Bool.and_eq_true
def hU:= @run_underlying
def iC:= @List.mem_cons
def m8:= @Nat.eq_of_beq_eq_true
def pY:= @Array.getElem?_eq_some_iff
def kZ:= @List.all_eq_true
def mq:= @List.length_append
def oq:= @Nat.le_of_ble_eq_true
def mO:= @Option.some.inj
def jJ:= @Nat.zero_le
def nG:= @List.length_cons
def kY:= @Nat.le_trans
def nF:= @List.nil_append
def xm:= @List.eq_nil_of_length_eq_zero
def sv:= @List.mem_of_getElem?
def sY:= @List.take_append_drop
def qz:= @Result.andThen_ok
def mT:= @Nat.lt_or_ge
def wM:= @Array.getElem?_replicate
def rR:= @List.append_assoc
def wb:= @List.take_of_length_le
def yO:= @List.getElem?_append_left
def yN:= @List.getElem?_take_of_lt
def ul:= @List.getElem?_drop
def uk:= @List.mem_singleton
def ui:= @decide_eq_true_eq
def pW:= @Sem.run_bind
def xl:= @Nat.mul_le_mul_right
def qx:= @Nat.zero_add
def wL:= @Bool.false_eq_true
def As:= @List.drop_of_length_le
def ud:= @List.drop_drop
def xk:= @Stepped.next.injEq
def uc:= @List.drop_zero
def CM:= @List.drop_eq_getElem_cons
def sU:= @getD_set_true
def wK:= @List.mem_append
def wJ:= @decide_eq_false
def FN:= @Array.getD_eq_getD_getElem?
def xi:= @Nat.min_eq_left
def CL:= @List.length_replicate
def sS:= @Nat.add_mul
def yM:= @Bool.not_eq_true
def wa:= @Bool.not_true
def Ap:= @Int.toNat_natCast
def Ao:= @Bool.not_eq_true'
def Hv:= @List.take_append_of_le_length
def sr:= @Nat.blt_eq
def oo:= @if_true
def wI:= @Bool.false_or
def yL:= @Bool.eq_iff_iff
def An:= @List.any_eq_true
def qw:= @if_false
def yK:= @decide_eq_true
def FM:= @MapKept.run_getObj_map
def Bc:= @List.take_length
def Kk:= @List.drop_append_of_le_length
def CI:= @List.getElem?_map
def Am:= @heap_alloc_new
def Al:= @List.take_take
def Bb:= @List.append_nil
def Hu:= @decide_eq_false_iff_not
def CF:= @List.cons_append
def FL:= @Bool.and_eq_true_iff
def CE:= @List.length_take
def Kj:= @List.getElem?_append_right
def Ak:= @Bool.true_and
def FK:= @Array.length_toList
def CD:= @List.length_nil
def uo:= @List.all_cons
def sw:= @getD_set_ne
def xp:= @List.length_set
def qA:= @mem_ready
def zK:= @List.length_drop
def Dg:= @List.getElem?_eq_none
def xo:= @Bool.not_false
def wk:= @Nat.le_of_eq
def Df:= @List.mem_append_left
def zJ:= @Bool.or_eq_true
def pm:= @Iff.rfl
def zI:= @List.drop_take
def Bg:= @decide_eq_decide
def FT:= @List.drop_eq_nil_of_le
def De:= @Nat.lt_of_lt_of_le
def FS:= @List.contains_iff_mem
def Dd:= @List.size_toArray
def FR:= @List.drop_eq_nil_iff
def Db:= @List.getElem_mem
def LZ:= @List.take_succ_eq_append_getElem
def zG:= @Sem.runT_fst
def FQ:= @List.replicate_succ
def IX:= @List.getElem?_cons_zero
def Da:= @Option.map_some
def xn:= @beq_iff_eq
def IW:= @Array.toList_replicate
def IV:= @MapKept.run_setObj_map
def IU:= @Array.getElem?_toList
def IT:= @List.countP_replicate
def Bf:= @List.mem_map
def Be:= @Sem.run_pure
def IS:= @Option.bind_fun_some
def IR:= @MapKept.run_checkKey
def FO:= @IntKind.wrap_i64

def CC:Obj→Obj→Prop
 | .cells c E fr,o' => ∃d:List Value,o' = .cells (c.toList++d).toArray E fr
 |o,o' =>o' =o
variable{o:Oper}
theorem q0(o:Obj):CC o o:=by
 cases o<;>first|rfl|exact⟨[],by simp⟩
variable{c:Code}{cells:List Value}{d:Nat}{fr:Nat×Nat}{k:Nat}{o' :Obj}
theorem DD{o o'' :Obj}(h:CC o o')(k:CC o' o''):CC o o'' :=by
 cases o with
 |cells c E fr=>
  obtain⟨d,rfl⟩:=h
  obtain⟨d',rfl⟩:=k
  exact⟨d++d',by simp⟩
 |_=>cases h;exact k
variable{off:Nat}
theorem BG{c:Array Value}{E:TypeId}(h:CC (.cells c E fr) o'){n:Nat}(hl:((c.toList.drop off).take n).length=n):
  ∃c',o' = .cells c' E fr∧(c'.toList.drop off).take n=(c.toList.drop off).take n:=by
 obtain⟨d,rfl⟩:=h
 refine⟨_,rfl,?_⟩
 by_cases hn:n=0
 ·subst hn;simp
 simp only [CE,zK]at hl
 rw [Kk (by omega),Hv (by simp only [zK];omega)]
abbrev SH:=Nat→Option Obj
def SH.le(S S' :SH):Prop:= ∀b o,S b=some o→ ∃o',S' b=some o' ∧CC o o'
variable{S:SH}
theorem SH.le_refl(S:SH):SH.le S S:=fun _ o h=>⟨o,h,q0 o⟩
variable{S' S'' :SH}{b:Bool}{e:TypeId}
theorem SH.le_trans(h:SH.le S S')(k:SH.le S' S''):SH.le S S'' :=fun b o e=>let⟨o',h1,h2⟩:=h b o e;let⟨o'',h3,h4⟩:=k b o' h1;⟨o'',h3,DD h2 h4⟩
structure Ty where
 p:SH→Value→Prop
 mono: ∀{S S' :SH} {v:Value},SH.le S S' →p S v→p S' v

structure Rp(α:Type) where
 sz:Nat
 agg:Bool
 rc:SH→List Value→α→Prop
 mono: ∀{S S' :SH} {cs:List Value} {x:α},SH.le S S' →rc S cs x→rc S' cs x
 len: ∀{S:SH} {cs:List Value} {x:α},rc S cs x→cs.length=sz
 one: ∀{S:SH} {cs:List Value} {x:α},rc S cs x→ ∀c∈cs,c.oneCell' =true
 sc:agg=false→sz=1

def Rp.val{α:Type}(r:Rp α)(cs:List Value):Value:=if r.agg then .agg cs.toArray else cs.headD undef

def tD{α:Type}(r:Rp α)(x:α):Ty where
 p:=fun S v=> ∃cs,v=r.val cs∧r.rc S cs x
 mono:=fun h ⟨cs,e,k⟩=>⟨cs,e,r.mono h k⟩

def Bq:Ty where
 p:=fun _ _=>True
 mono:=fun _ _=>trivial

def tV(u:Value):Ty where
 p:=fun _ v=>v=u
 mono:=fun _ h=>h

def rI(k:IntKind):Rp Int where
 sz:=1
 agg:=false
 rc:=fun _ cs x=>cs=[.int k x]
 mono:=fun _ h=>h
 len:=fun h=>by rw [h];rfl
 one:=fun h c hc=>by subst h;simp at hc;subst hc;rfl
 sc:=fun _=>rfl

def rB:Rp Bool where
 sz:=1
 agg:=false
 rc:=fun _ cs x=>cs=[.bool x]
 mono:=fun _ h=>h
 len:=fun h=>by rw [h];rfl
 one:=fun h c hc=>by subst h;simp at hc;subst hc;rfl
 sc:=fun _=>rfl

abbrev im:=List UInt8
def rS:Rp im where
 sz:=1
 agg:=false
 rc:=fun _ cs x=>cs=[.string ⟨x.toArray⟩]
 mono:=fun _ h=>h
 len:=fun h=>by rw [h];rfl
 one:=fun h c hc=>by subst h;simp at hc;subst hc;rfl
 sc:=fun _=>rfl

variable{cs:List Value}{v:Value}
theorem cZ{k:IntKind}{n:Int}:(tD (rI k) n).p S v↔v= .int k n:=by
 constructor
 ·rintro⟨cs,rfl,h⟩;have h' :cs=[.int k n]:=h;subst h';rfl
 ·rintro rfl;exact⟨[.int k n],rfl,rfl⟩
theorem gi:(tD rB b).p S v↔v= .bool b:=by
 constructor
 ·rintro⟨cs,rfl,h⟩;have h' :cs=[.bool b]:=h;subst h';rfl
 ·rintro rfl;exact⟨[.bool b],rfl,rfl⟩
variable{α:Type}{s:Sem α}
theorem qI{s:im}:(tD rS s).p S v↔v= .string ⟨s.toArray⟩:=by
 constructor
 ·rintro⟨cs,rfl,h⟩;have h' :cs=[.string ⟨s.toArray⟩]:=h;subst h';rfl
 ·rintro rfl;exact⟨[.string ⟨s.toArray⟩],rfl,rfl⟩

def o5{α:Type}(r:Rp α)(S:SH):List Value→List α→Prop
 |cs,[]=>cs=[]
 |cs,x::xs=> ∃a b,cs=a++b∧r.rc S a x∧o5 r S b xs
variable{a:Act}{xs:List α}
theorem pr{α:Type}{r:Rp α}{S S' :SH}(h:SH.le S S'): ∀{xs:List α} {cs:List Value},o5 r S cs xs→o5 r S' cs xs
 |[],_,k=>k
 |_::_,_,⟨a,b,e,h1,h2⟩=>⟨a,b,e,r.mono h h1,pr h h2⟩
variable{x:Operand}
theorem j9{α:Type}{r:Rp α}{S:SH}: ∀{xs:List α} {cs:List Value},o5 r S cs xs→cs.length=xs.length*r.sz
 |[],_,k=>by rw [show _=_ from k];simp
 |x::xs,_,⟨a,b,e,h1,h2⟩=>by rw [e,mq,r.len h1,j9 h2,nG,sS];omega
theorem xH{α:Type}{r:Rp α}{S:SH}: ∀{xs:List α} {cs:List Value},o5 r S cs xs→ ∀c∈cs,c.oneCell' =true
 |[],_,k,c,hc=>by rw [show _=_ from k]at hc;cases hc
 |x::xs,_,⟨a,b,e,h1,h2⟩,c,hc=>by
  rw [e]at hc
  rcases wK.1 hc with h|h
  ·exact r.one h1 c h
  ·exact xH h2 c h
variable{ys:List α}
theorem qT{α:Type}{r:Rp α}{S:SH}: ∀{xs ys:List α} {cs ds:List Value},o5 r S cs xs→o5 r S ds ys→o5 r S (cs++ds) (xs++ys)
 |[],_,_,_,k,h=>by rw [show _=_ from k];exact h
 |_::_,_,_,_,⟨a,b,e,h1,h2⟩,h=>⟨a,_,by rw [e,rR],h1,qT h2 h⟩
theorem nu{α:Type}{r:Rp α}{S:SH}: ∀{xs ys:List α} {cs:List Value},o5 r S cs (xs++ys)→
  o5 r S (cs.take (xs.length*r.sz)) xs∧o5 r S (cs.drop (xs.length*r.sz)) ys
 |[],_,_,k=>by simp [o5];exact k
 |x::xs,ys,cs,⟨a,b,e,h1,h2⟩=>by
  have hl:=r.len h1
  have ih:=nu h2
  have e1:(x::xs).length*r.sz=a.length+xs.length*r.sz:=by rw [hl,nG,sS];omega
  rw [e,e1,List.take_length_add_append,List.drop_length_add_append]
  exact⟨⟨a,_,rfl,h1,ih.1⟩,ih.2⟩
theorem H0{r:Rp α}{x:α}:o5 r S cs [x]↔r.rc S cs x:=by
 constructor
 ·rintro⟨a,b,rfl,h,hb⟩
  rw [show b=[]from hb,Bb];exact h
 ·intro h;exact⟨cs,[],by simp,h,rfl⟩
variable{i:Nat}
theorem vG{r:Rp α}(h:o5 r S cs xs){x:α}(hx:xs[i]? =some x):
  r.rc S ((cs.drop (i*r.sz)).take r.sz) x:=by
 have hi:i<xs.length:=(ox.1 hx).1
 have e:xs=xs.take i++(x::xs.drop (i+1)):=by
  have:=ox.1 hx
  rw [←this.2,←CM hi,sY]
 have hl:(xs.take i).length=i:=by simp;omega
 rw [e]at h
 have h2:=(nu h).2
 rw [hl]at h2
 obtain⟨a,b,e2,h3,_⟩:=h2
 rw [e2,←r.len h3,List.take_left]
 exact h3

def F7{α:Type}(r:Rp α)(S:SH)(a:Option Addr)(xs:List α):Prop:=
 xs=[]∨ ∃b off c E fr,a=some ⟨b,off,none⟩∧S b=some (.cells c E fr)∧o5 r S ((c.toList.drop off).take (xs.length*r.sz)) xs
def fz{α:Type}(r:Rp α):Rp (List α) where
 sz:=1
 agg:=false
 rc:=fun S cs xs=> ∃a cap,cs=[.slice a xs.length cap]∧xs.length≤cap∧cap≤maxLen∧F7 r S a xs
 mono:=fun h ⟨a,cap,e,h1,h2,h3⟩=>⟨a,cap,e,h1,h2,h3.imp id fun⟨b,off,c,E,fr,e1,e2,e3⟩=>by
  obtain⟨o',h4,h5⟩:=h _ _ e2
  obtain⟨c',rfl,h6⟩:=BG h5 (j9 e3)
  exact⟨b,off,c',E,fr,e1,h4,by rw [h6];exact pr h e3⟩⟩
 len:=fun⟨a,cap,e,_⟩=>by rw [e];rfl
 one:=fun⟨a,cap,e,_⟩ c hc=>by rw [e]at hc;simp at hc;subst hc;rfl
 sc:=fun _=>rfl
variable{cap:Nat}
theorem lP{r:Rp α}:(tD (fz r) xs).p S v↔ ∃a cap,v= .slice a xs.length cap∧xs.length≤cap∧cap≤maxLen∧F7 r S a xs:=by
 constructor
 ·rintro⟨cs,rfl,a,cap,rfl,h⟩;exact⟨a,cap,rfl,h⟩
 ·rintro⟨a,cap,rfl,h⟩;exact⟨_,rfl,a,cap,rfl,h⟩
theorem EG{r:Rp α}:(tD (fz r) []).p S (.slice none 0 0):=lP.2 ⟨none,0,rfl,gp _,jJ _,.inl rfl⟩

def bq{α:Type}(r:Rp α)(x:α):Ty where
 p:=fun S v=> ∃b off c E fr,v= .pointer (some ⟨b,off,none⟩)∧S b=some (.cells c E fr)∧r.rc S ((c.toList.drop off).take r.sz) x
 mono:=fun h ⟨b,off,c,E,fr,e1,e2,e3⟩=>by
  obtain⟨o',h4,h5⟩:=h _ _ e2
  obtain⟨c',rfl,h6⟩:=BG h5 (r.len e3)
  exact⟨b,off,c',E,fr,e1,h4,by rw [h6];exact r.mono h e3⟩

def glob:List (Nat×List Value):=[(0,[.string ⟨([98,111,111,108]:List UInt8).toArray⟩,.int .i64 (1),.string ⟨([105,110,116]:List UInt8).toArray⟩,.int .i64 (2),.string ⟨([116,101,120,116]:List UInt8).toArray⟩,.int .i64 (3)]),(1,[.int .i64 (1),.int .i64 (0),.int .u64 (0),.string ⟨([]:List UInt8).toArray⟩,.int .i64 (0),.int .i64 (0),.int .u64 (0),.string ⟨([]:List UInt8).toArray⟩,.int .i64 (1),.int .i64 (1),.int .u64 (0),.string ⟨([]:List UInt8).toArray⟩]),(2,[.string ⟨([83,69,76,69,67,84]:List UInt8).toArray⟩,.string ⟨([68,73,83,84,73,78,67,84]:List UInt8).toArray⟩,.string ⟨([70,82,79,77]:List UInt8).toArray⟩,.string ⟨([76,69,70,84]:List UInt8).toArray⟩,.string ⟨([74,79,73,78]:List UInt8).toArray⟩,.string ⟨([79,78]:List UInt8).toArray⟩,.string ⟨([87,72,69,82,69]:List UInt8).toArray⟩,.string ⟨([71,82,79,85,80]:List UInt8).toArray⟩,.string ⟨([66,89]:List UInt8).toArray⟩,.string ⟨([72,65,86,73,78,71]:List UInt8).toArray⟩,.string ⟨([85,78,73,79,78]:List UInt8).toArray⟩,.string ⟨([65,76,76]:List UInt8).toArray⟩,.string ⟨([79,82,68,69,82]:List UInt8).toArray⟩,.string ⟨([76,73,77,73,84]:List UInt8).toArray⟩,.string ⟨([65,83,67]:List UInt8).toArray⟩,.string ⟨([68,69,83,67]:List UInt8).toArray⟩,.string ⟨([65,83]:List UInt8).toArray⟩,.string ⟨([65,78,68]:List UInt8).toArray⟩,.string ⟨([79,82]:List UInt8).toArray⟩,.string ⟨([78,79,84]:List UInt8).toArray⟩,.string ⟨([73,83]:List UInt8).toArray⟩,.string ⟨([78,85,76,76]:List UInt8).toArray⟩,.string ⟨([84,82,85,69]:List UInt8).toArray⟩,.string ⟨([70,65,76,83,69]:List UInt8).toArray⟩,.string ⟨([67,79,85,78,84]:List UInt8).toArray⟩,.string ⟨([83,85,77]:List UInt8).toArray⟩,.string ⟨([77,73,78]:List UInt8).toArray⟩,.string ⟨([77,65,88]:List UInt8).toArray⟩])]
def KA(w:World):Prop:=Lib.CaseVar 3 Lib.caseA w∧Lib.Utf8Tabs 5 6 w
structure gR(w:World)(S:SH):Prop where
 at_: ∀b o,S b=some o→ ∃o',w.heap[b]? =some o' ∧CC o o'
 gl: ∀p∈glob,∃c T fr,S p.1=some (.cells c T fr)∧c.toList.take p.2.length=p.2
 tb: ∀w' :World,(∀b o,S b=some o→ ∃o',w'.heap[b]? =some o' ∧CC o o')→KA w'
instance{w:World}{S:SH}:CoeFun (gR w S) (fun _=> ∀b o,S b=some o→ ∃o',w.heap[b]? =some o' ∧CC o o'):=⟨gR.at_⟩
variable{w:World}
theorem gR.tab(h:gR w S):KA w:=h.tb w h.at_
theorem gR.lt(h:gR w S){b:Nat}{o:Obj}(k:S b=some o):b<w.heap.size:=let⟨_,h1,_⟩:=h b o k;(pY.1 h1).1
theorem gR.part(h:gR w S){b:Nat}{c:Array Value}{E:TypeId}(k:S b=some (.cells c E fr)){n:Nat}(hl:((c.toList.drop off).take n).length=n):
  ∃c',w.heap[b]? =some (.cells c' E fr)∧(c'.toList.drop off).take n=(c.toList.drop off).take n:=by
 obtain⟨o',h1,h2⟩:=h b _ k
 obtain⟨c',rfl,h3⟩:=BG h2 hl
 exact⟨c',h1,h3⟩
variable{w' :World}
theorem gR.same(h:gR w S)(k: ∀b o,S b=some o→w'.heap[b]? =w.heap[b]?):gR w' S:=⟨fun b o e=>by rw [k b o e];exact h b o e,h.gl,h.tb⟩

def om:Nat→Prop:=fun _=>False
structure fM(B:Nat→Prop)(w:World)(S:SH)(w' :World)(S' :SH):Prop where
 os:w'.os=w.os
 tape:w'.tape=w.tape
 output:w'.output=w.output
 drawn:w.drawn≤w'.drawn
 size:w.heap.size≤w'.heap.size
 heap: ∀k,k<w.heap.size→ ¬B k→w'.heap[k]? =w.heap[k]?
 keep:SH.le S S'
 old: ∀k,k<w.heap.size→ ¬B k→S' k=S k
theorem fR(B:Nat→Prop)(w:World)(S:SH):fM B w S w S:=⟨rfl,rfl,rfl,gp _,gp _,fun _ _ _=>rfl,SH.le_refl _,fun _ _ _=>rfl⟩
variable{w'' :World}
theorem fM.trans{B:Nat→Prop}(h:fM B w S w' S')(k:fM B w' S' w'' S''):fM B w S w'' S'' :=
 ⟨k.os.trans h.os,k.tape.trans h.tape,k.output.trans h.output,kY h.drawn k.drawn,kY h.size k.size,
  fun i hi hb=>(k.heap i (De hi h.size) hb).trans (h.heap i hi hb),SH.le_trans h.keep k.keep,
  fun i hi hb=>(k.old i (De hi h.size) hb).trans (h.old i hi hb)⟩
variable{C:Nat→Prop}
theorem fM.step{B:Nat→Prop}(h:fM B w S w' S')(k:fM C w' S' w'' S'')(hC: ∀b,C b→w.heap.size≤b∨B b):fM B w S w'' S'' :=
 ⟨k.os.trans h.os,k.tape.trans h.tape,k.output.trans h.output,kY h.drawn k.drawn,kY h.size k.size,
  fun i hi hb=>(k.heap i (De hi h.size) (fun hc=>(hC i hc).elim (fun h=>by omega) hb)).trans (h.heap i hi hb),SH.le_trans h.keep k.keep,
  fun i hi hb=>(k.old i (De hi h.size) (fun hc=>(hC i hc).elim (fun h=>by omega) hb)).trans (h.old i hi hb)⟩
theorem fM.more{B:Nat→Prop}(h:fM B w S w' S')(k: ∀b,B b→C b):fM C w S w' S' :=
 ⟨h.os,h.tape,h.output,h.drawn,h.size,fun i hi hb=>h.heap i hi (fun h=>hb (k i h)),h.keep,fun i hi hb=>h.old i hi (fun h=>hb (k i h))⟩
theorem fM.step0{B:Nat→Prop}(h:fM B w S w' S')(k:fM om w' S' w'' S''):fM B w S w'' S'' :=h.step k fun _ hb=>hb.elim

structure OE where
 fp:Nat→Prop
 p:World→SH→Prop
 here: ∀{w S},p w S→ ∀k,fp k→k<w.heap.size
 kept: ∀{C w w' S S'},p w S→fM C w S w' S' →(∀k,fp k→ ¬C k)→p w' S'
def OE.holds(e:OE)(base:Nat)(B:Nat→Prop)(w:World)(S:SH):Prop:=e.p w S∧ ∀k,e.fp k→base≤k∨B k
def OE.apart(e f:OE):Prop:= ∀b,e.fp b→ ¬f.fp b
def dp(base:Nat)(B:Nat→Prop)(w:World)(S:SH):List OE→Prop
 |[]=>True
 |e::O=>e.holds base B w S∧(∀f∈O,e.apart f)∧dp base B w S O
theorem FA{e:OE}{base:Nat}{B:Nat→Prop}(h:e.holds base B w S)(k:fM C w S w' S')(hC: ∀b,e.fp b→ ¬C b):e.holds base B w' S' :=⟨e.kept h.1 k hC,h.2⟩
variable{O:List OE}{f:FuncId}
theorem dp.ext{base:Nat}{B:Nat→Prop}(k:fM C w S w' S'): ∀{O:List OE},dp base B w S O→(∀e∈O,∀b,e.fp b→ ¬C b)→dp base B w' S' O
 |[],_,_=>trivial
 |e::_,⟨h1,h2,h3⟩,hC=>⟨FA h1 k (hC e (lV ..)),h2,dp.ext k h3 fun f hf=>hC f (kG _ hf)⟩
theorem dp.ext0{base:Nat}{B:Nat→Prop}(k:fM om w S w' S')(h:dp base B w S O):dp base B w' S' O:=
 h.ext k fun _ _ _ _ hb=>hb
theorem dp.mem{base:Nat}{B:Nat→Prop}: ∀{O:List OE},dp base B w S O→ ∀e∈O,e.holds base B w S
 |_::_,⟨h1,_,_⟩,_,.head _=>h1
 |_::_,⟨_,_,h3⟩,_,.tail _ hm=>dp.mem h3 _ hm

abbrev kb:=List (Nat×Ty)
def look:kb→Nat→Option Ty
 |[],_=>none
 |(k,t)::G,j=>bif Nat.beq k j then some t else look G j
structure Fr where
 n:Nat
 ds:List Deferred
structure co(N:Fr)(S:SH)(a:Act)(G:kb):Prop where
 size:a.tmps.size=N.n
 defers:a.defers=N.ds
 at_: ∀k t,look G k=some t→t.p S (a.tmps.getD k undef)
variable{G:kb}{j:Nat}{t:TypeId}
theorem co.mono{N:Fr}(h:co N S a G)(k:SH.le S S'):co N S' a G:=⟨h.size,h.defers,fun j t e=>t.mono k (h.at_ j t e)⟩
theorem co.sub{N:Fr}{G' :kb}(h:co N S a G)(k: ∀j t,look G' j=some t→look G j=some t):co N S a G' :=⟨h.size,h.defers,fun j t e=>h.at_ j t (k j t e)⟩
variable{u:OE}
theorem co.put{N:Fr}(h:co N S a G)(hd:Nat.blt d N.n=true){t:Ty}(hv:t.p S v):co N S (a.put (some d) v) ((d,t)::G):=by
 have hd' :d<N.n:=by simpa [sr] using hd
 refine⟨by simp [Act.put,h.size],h.defers,fun j u e=>?_⟩
 unfold look at e
 by_cases hj:d=j
 ·subst hj
  have e' :t=u:=by simpa using e
  rw [e']at hv
  simp [Act.put,FN,h.size,hd',hv]
 ·have hb:Nat.beq d j=false:=by cases hh:Nat.beq d j with
   |false=>rfl
   |true=>exact absurd (m8 hh) hj
  rw [hb]at e
  have:=h.at_ j u e
  simpa [Act.put,FN,Array.getElem?_setIfInBounds,hj] using this
def HD:kb→kb→Prop
 |[],_=>True
 |(k,t)::G',G=>look G k=some t∧HD G' G
theorem Dr: ∀{G' G:kb},HD G' G→ ∀j t,look G' j=some t→look G j=some t
 |(k,t)::G',G,⟨h1,h2⟩,j,u,e=>by
  unfold look at e
  by_cases hb:Nat.beq k j=true
  ·rw [hb]at e
   have:=m8 hb
   subst this
   simp only [cond_true]at e
   rw [←e];exact h1
  ·rw [yM]at hb
   rw [hb]at e
   exact Dr h2 j u e

def aE(N:Fr)(G:kb)(x:Operand)(t:Ty):Prop:= ∀S a,co N S a G→t.p S (a.eval x)
theorem ht{N:Fr}{t:Ty}(h:look G k=some t):aE N G (.tmp k) t:=fun _ _ hF=>hF.at_ k t h
theorem hI{N:Fr}{k:IntKind}{n:Int}:aE N G (.const (.int k n)) (tD (rI k) n):=fun _ _ _=>cZ.2 rfl
theorem hB{N:Fr}:aE N G (.const (.bool b)) (tD rB b):=fun _ _ _=>gi.2 rfl
theorem hS{N:Fr}{s:Array UInt8}:aE N G (.const (.string ⟨s⟩)) (tD rS s.toList):=fun _ _ _=>qI.2 rfl
theorem uf{N:Fr}{r:Rp α}:aE N G (.const (.slice none 0 0)) (tD (fz r) []):=fun _ _ _=>EG
theorem hV{N:Fr}:aE N G (.const v) (tV v):=fun _ _ _=>rfl

variable{R:Ending→World→Prop}{bytes:Nat}{done:Array Bool}{es:Array Event}{g:Option (Nat×Bool)}{gs:Nat}{l:Option Nat}{m m' :Machine}{ops:Array Oper}{β:Type}{q:Rp β}
section
variable{P:Program}
def wOf{α:Type}:Result α→World
 | .ok _ w=>w
 | .halt _ w=>w
theorem Fa(w:World)(a:Addr)(n:Nat):(w.freeze a n).drawn=w.drawn:=by unfold World.freeze;split<;>rfl
theorem Az{at_:Addr}{u:TypeId}{k:Addr}{x:Bool}{r:World×List Addr}(h:w.viewStore P at_ u k v x= .ok r):r.1.drawn=w.drawn:=by
 unfold World.viewStore at h
 simp only [bind,Except.bind,pure,Except.pure,throw,throwThe,MonadExceptOf.throw]at h
 repeat' (split at h)
 all_goals first
  |(cases h;done)
  |(cases h;rfl)
theorem Cb{a:Addr}{x:Bool}{r:World×List Addr}(h:w.farStore P a v x= .ok r):r.1.drawn=w.drawn:=by
 unfold World.farStore at h
 split at h
 ·split at h
  ·rename_i h2;cases h;exact Az h2
  ·cases h
 ·cases h
theorem zt{α:Type}: ∀(a:Ask α) (w:World),w.drawn≤(w.ask a).2.drawn
 | .done a,w=>gp _
 | .ask what range k,w=>by
  unfold World.ask
  simp only
  split
  ·exact zt (k 0) w
  ·exact kY (Nat.le_succ _) (zt (k ((Question.extern what range).cut (w.tape w.drawn (Question.extern what range)))) {w with drawn:=w.drawn+1})
theorem KC(w:World)(c:Sys):w.drawn≤(w.sys c).2.drawn:=by
 unfold World.sys
 have h:=zt (Kernel.perform c w.os) w
 split
 ·exact gp _
 ·rename_i h2
  rw [h2]at h
  exact h
theorem gb{α:Type}: ∀(s:Sem α) (w:World),w.drawn≤(wOf (s.run P w)).drawn
 | .pure a,w=>gp _
 | .load m a k,w=>by
  unfold Sem.run
  split
  ·exact gb _ w
  ·split
   ·exact gb _ w
   ·exact gp _
 | .store m a v k,w=>by
  have key:w.drawn≤(wOf (match w.cell? a with
   |some _=>if w.frozen? a then .halt (.unsupported (.unsafePointer "a write to bytes that a string shares")) w else k.run P (w.setCell a v)
   |none=>match w.farStore P a v (m== .atomic)with
    | .ok (w,_)=>k.run P w
    | .error h=> .halt h w)).drawn:=by
   split
   ·split
    ·exact gp _
    ·exact gb k (w.setCell a v)
   ·split
    ·rename_i w' l h
     have:=gb k w'
     rw [show w'.drawn=w.drawn from Cb h]at this
     exact this
    ·exact gp _
  cases v<;>first|exact gp _|(simp only [Sem.run];exact key)
 | .new o k,w=>gb (k w.heap.size) {w with heap:=w.heap.push o}
 | .shape r k,w=>gb (k (w.shape? r)) w
 | .freeze a n k,w=>by
  have:=gb k (w.freeze a n)
  rw [Fa]at this
  exact this
 | .frozen a k,w=>gb (k (w.frozen? a)) w
 | .getObj r k,w=>by
  unfold Sem.run
  split
  ·exact gp _
  ·exact gb _ w
  ·exact gp _
 | .setObj r o k,w=>by
  unfold Sem.run
  split
  ·exact gp _
  ·exact gb k {w with heap:=w.heap.setIfInBounds r o}
  ·exact gp _
 | .choose q k,w=>by
  unfold Sem.run
  split
  ·exact gb (k 0) w
  ·exact kY (Nat.le_succ _) (gb (k (q.cut (w.tape w.drawn q))) {w with drawn:=w.drawn+1})
 | .sys c k,w=>by
  exact kY (KC w c) (gb (k (w.sys c).1) (w.sys c).2)
 | .program k,w=>gb (k P) w
 | .mark m k,w=>gb k w
 | .halt h,w=>gp _
theorem cJ{x:α}(h:s.run P w= .ok x w'):w.drawn≤w'.drawn:=by
 have:=gb (P:=P) s w
 rw [h]at this
 exact this
theorem mi{x:Halt}(h:s.run P w= .halt x w'):w.drawn≤w'.drawn:=by
 have:=gb (P:=P) s w
 rw [h]at this
 exact this
theorem KZ{x:α}{es' :Array Event}(h:s.runT P w es=(.ok x w',es')):w.drawn≤w'.drawn:=
 cJ (P:=P) (s:=s) (x:=x) (by rw [←zG P s w es,h])
theorem GG{x:Halt}{es' :Array Event}(h:s.runT P w es=(.halt x w',es')):w.drawn≤w'.drawn:=
 mi (P:=P) (s:=s) (x:=x) (by rw [←zG P s w es,h])
theorem Ay{rest:Rest}{cases:Array CommCase}(h:waitingAt rest cases w=some w'):w'.drawn=w.drawn:=by
 unfold waitingAt at h
 repeat' (split at h)
 all_goals (cases h;try rfl)
theorem yp(rest:Rest)(gs:Array Goroutine)(i:Nat)(g:Goroutine)(cases:Array CommCase)(blocking:Bool)
  (shape:CommShape)(w:World)(m' :Machine)(h:(communicate P rest gs i g cases blocking shape w).1= .next m'):w.drawn≤m'.world.drawn:=by
 unfold communicate at h
 simp only []at h
 repeat' first
  |(simp at h;done)
  |(simp only [xk]at h;subst h;(try dsimp only);exact gp _)
  |(simp only [xk]at h;subst h;(try dsimp only);exact cJ (by assumption))
  |(simp only [xk]at h;subst h;(try dsimp only);exact wk (Ay (by assumption)).symm)
  |(simp only [xk]at h;subst h;(try dsimp only);exact kY (cJ (by assumption)) (cJ (by assumption)))
  |(simp only [xk]at h;subst h;(try dsimp only);exact kY (cJ (by assumption)) (mi (by assumption)))
  |split at h
theorem BR(gs:Array Goroutine)(rest:Rest)(w:World)(m' :Machine)
  (h:Go.look P gs rest w= .next m'):w.drawn≤m'.world.drawn:=by
 unfold Go.look at h
 simp only []at h
 repeat' first
  |(simp at h;done)
  |(simp only [xk]at h;subst h;(try dsimp only);exact cJ (by assumption))
  |split at h
def AX(d:Nat):GStep→Prop
 | .go _ w _=>d≤w.drawn
 | .comm _ _ _ _ w _=>d≤w.drawn
 | .spawn _ _ w _=>d≤w.drawn
 | .count _ w _=>d≤w.drawn
 | .timer _ _ w _=>d≤w.drawn
 | .alone _ _ w _=>d≤w.drawn
 | .newcoro _ _ _ w _=>d≤w.drawn
 | .coroswitch _ _ _ w _=>d≤w.drawn
 | .collect _ w _=>d≤w.drawn
 | .watch _ w _=>d≤w.drawn
 | .ended _ _ _=>True
theorem oN{s:GStep}(h:AX d s):AX d (s.after es):=by cases s<;>exact h
theorem q9{e:Nat}{s:GStep}(h:AX d s)(k:e≤d):AX e s:=by
 cases s<;>first|exact kY k h|trivial
theorem IA(d:Nat)(w:World)(fd:Nat)(text:ByteArray)(o:Outcome):AX d (endWith w fd text o):=by
 unfold endWith
 repeat' split
 all_goals trivial
theorem Nq(fr:Frame)(fm:List ByteArray)(m:String)(whole:Bool)(w:World):AX w.drawn (dieOf fr fm m whole w):=gp _
theorem rM(fr:Frame)(m:String)(w:World):AX w.drawn (endThrow fr m w):=gp _
theorem vb(fr:Frame)(v:Value)(w:World):AX w.drawn (endPrinting P fr v w):=by
 unfold endPrinting
 simp only []
 split
 ·exact gp _
 ·trivial
theorem Ag(fr:Frame)(callers:List Frame)(dying:Option Dying)(m:String)(w:World):AX w.drawn (endFatal P fr callers dying m w):=by
 unfold endFatal
 simp only []
 split
 ·exact q9 (Nq _ _ _ _ _) (cJ (by assumption))
 ·trivial
 ·trivial
theorem Hw(fr:Frame)(d:Dying)(f:Fatal)(w:World):AX w.drawn (writeOn P fr d f w):=by
 unfold writeOn
 simp only []
 split
 ·trivial
 ·split
  ·exact KZ (by assumption)
  ·exact GG (by assumption)
  ·trivial
  ·trivial
theorem TT(fr:Frame)(d:Dying)(w:World):AX w.drawn (die P fr d w):=by
 unfold die
 simp only []
 split
 ·exact Hw _ _ _ _
 ·split
  ·split
   ·exact gp _
   ·exact IA _ _ _ _ _
  ·split
   ·exact gp _
   ·split
    ·exact cJ (by assumption)
    ·trivial
   ·apply oN
    split
    ·exact cJ (P:=P) (by rw [←zG];assumption)
    ·exact cJ (P:=P) (by rw [←zG];assumption)
    ·trivial
    ·exact q9 (vb _ _ _) (mi (P:=P) (by rw [←zG];assumption))
    ·trivial
   ·trivial
theorem oK{x:α}(h:(s.runT P w es).1= .ok x w'):w.drawn≤w'.drawn:=cJ (P:=P) (s:=s) (x:=x) (by rw [←zG P s w es,h])
theorem rE{x:Halt}(h:(s.runT P w es).1= .halt x w'):w.drawn≤w'.drawn:=mi (P:=P) (s:=s) (x:=x) (by rw [←zG P s w es,h])
theorem ve(main:Bool)(fr:Frame)(callers:List Frame)(dying:Option Dying)(v:Value)(w:World):AX w.drawn (doReturn P main fr callers dying v w):=by
 unfold doReturn
 simp only []
 repeat' split
 all_goals first|exact gp _|trivial
theorem E6{c:Prop} [Decidable c]{a b:GStep}(ha:AX d a)(hb:AX d b):AX d (if c then a else b):=by split<;>assumption
theorem AN(fr:Frame)(callers:List Frame)(dying:Option Dying)(d:Deferred)(w:World):AX w.drawn (callDeferred P fr callers dying d w):=by
 unfold callDeferred
 simp only []
 refine E6 trivial (oN ?_)
 split
 all_goals first
  |exact oK (by assumption)
  |exact rE (by assumption)
  |trivial
  |exact q9 (Ag _ _ _ _ _) (rE (by assumption))
  |exact q9 (rM _ _ _) (rE (by assumption))
  |(split<;>exact oK (by assumption))
theorem Kv(main:Bool)(fr:Frame)(callers:List Frame)(dying:Option Dying)(w:World):AX w.drawn (unwind P main fr callers dying w):=by
 unfold unwind
 simp only []
 split
 ·apply oN
  split
  ·exact oK (by assumption)
  ·trivial
 ·exact AN _ _ _ _ _
 ·split
  ·trivial
  ·split
   ·trivial
   ·split
    ·exact gp _
    ·split
     ·split
      ·exact gp _
      ·split
       ·exact cJ (by assumption)
       ·trivial
       ·trivial
     ·split
      ·exact vb _ _ _
      ·trivial
  ·split
   ·exact ve _ _ _ _ _ _
   ·apply oN
    split
    ·exact q9 (ve _ _ _ _ _ _) (oK (by assumption))
    ·trivial
    ·trivial
theorem Nn(fr:Frame)(callers:List Frame)(dying:Option Dying)(g:Nat)(w:World):AX w.drawn (early P fr callers dying g w):=by
 have hn: ∀w1:World,w.drawn≤w1.drawn→AX w.drawn (match w1.heap[g]? with
   |some (.pending c elem)=> .go {frame:=fr,callers,status:= .running,dying} {w1 with heap:=w1.heap.setIfInBounds g (.cells c elem)}
   |_=> .ended (.stuck "early: the variable does not wait" (fr.pos P)) w1):=fun w1 h=>by
  split
  ·exact h
  ·trivial
 unfold early
 simp only []
 repeat' first
  |trivial
  |exact hn _ (gp _)
  |exact gp _
  |exact hn _ (cJ (by assumption))
  |exact cJ (P:=P) (by assumption)
  |split
theorem vn(main:Bool)(listen:Bool)(fr:Frame)(callers:List Frame)(dying:Option Dying)(s:Sem Next)(w:World):AX w.drawn (stepG.apply P listen fr callers dying s w):=by
  unfold stepG.apply
  simp only []
  apply oN
  have hr:(if listen=true then s.runT P w #[]else(s.run P w,#[])).1=s.run P w:=by
    split
    · exact zG _ _ _ _
    · rfl
  rw [hr]
  split
  all_goals first
    |exact cJ (by assumption)
    |exact mi (by assumption)
    |trivial
    |exact q9 (Ag _ _ _ _ _) (mi (by assumption))
    |exact q9 (rM _ _ _) (mi (by assumption))
    |exact q9 (Nn _ _ _ _ _) (mi (by assumption))
    | (repeat' split
       all_goals first
        |exact cJ (by assumption)
        |exact q9 (rM _ _ _) (cJ (by assumption)))
theorem Oz(main listen:Bool)(fr:Frame)(callers:List Frame)(dying:Option Dying)(w:World):AX w.drawn (stepG.oper P listen fr callers dying w):=by
 unfold stepG.oper
 split
 ·trivial
 ·split
  ·exact vn main _ _ _ _ _ _
  ·exact vn main _ _ _ _ _ _
theorem QD(main listen:Bool)(fr:Frame)(callers:List Frame)(dying:Option Dying)(w:World):AX w.drawn (stepG.exec P main listen fr callers dying w):=by
 have leave: ∀(c:Prop) (_:Decidable c) (jump:Option Code),AX w.drawn (match fr.roundOf with
   |none=>if c then GStep.go {frame:={fr with mode:= .returning},callers,status:= .running,dying} w else .ended (.stuck "exit, goto: no such block or label" (fr.pos P)) w
   |some l=>GStep.after (seen P fr.fn ((Instr.endRound l jump).runT P w #[]).2) (match ((Instr.endRound l jump).runT P w #[]).1 with
    | .ok v w=>doReturn P main fr callers dying v w
    | .halt _ w=> .ended (.stuck "range over a function: no such loop" (fr.pos P)) w)):=fun c _ jump=>by
  split
  ·exact E6 (gp _) trivial
  ·apply oN
   split
   ·exact q9 (ve _ _ _ _ _ _) (oK (by assumption))
   ·trivial
 unfold stepG.exec
 simp only []
 split
 all_goals first
  |exact leave _ _ _
  |exact gp _
  |exact vn main _ _ _ _ _ _
  |trivial
  |(split<;>first|exact gp _|trivial)
  |(cases h:exitTo _ _<;>first|exact gp _|exact leave _ _ _)
  |(cases h:gotoIn _ _<;>first|exact gp _|exact leave _ _ _)
  |(cases h:Extern.next _<;>first|trivial|exact vn main _ _ _ _ _ _)
  |(apply oN;split<;>first|trivial|exact oK (by assumption)|exact rE (by assumption)|exact q9 (vn main _ _ _ _ _ _) (oK (by assumption)))
  |(refine E6 (gp _) ?_;split<;>first|trivial|exact cJ (by assumption))
  |(refine E6 ?_ (gp _);exact Oz main _ _ _ _ _)
  |skip
theorem Mp(main listen:Bool)(g:Goroutine)(w:World):AX w.drawn (stepG P main g w listen):=by
 unfold stepG
 simp only []
 split
 ·exact TT _ _ _
 ·exact QD _ _ _ _ _ _
 ·exact Kv _ _ _ _ _
theorem CR{op:TimerOp}(h:timerOp m op= .ok (v,m')):m.world.drawn≤m'.world.drawn:=by
 have hr: ∀(m0:Machine) (k:Nat) (t:Timer) (when_ period:Nat),(retime m0 k t when_ period).2.world.drawn=m0.world.drawn:=fun m0 k t a b=>by
  unfold retime drain
  cases t.chan with
  |none=>rfl
  |some c=>simp only [];split<;>rfl
 have ho: ∀{var:Addr} {m0:Machine},timerOp.opened m var=some m0→m0.world.drawn=m.world.drawn:=fun{var m0} h=>by
  unfold timerOp.opened at h
  repeat' (split at h)
  all_goals (cases h;try rfl)
 have hn: ∀{var:Addr} {m0:Machine} {f:Nat→Timer→Value×Machine} {r:Value×Machine},timerOp.named m0 var f= .ok r→ ∃k t,r=f k t:=fun{var m0 f r} h=>by
  unfold timerOp.named at h
  split at h
  ·cases h;exact⟨_,_,rfl⟩
  ·cases h
 unfold timerOp at h
 split at h
 ·repeat' (split at h)
  all_goals first
   |(cases h;exact gp _)
   |(cases h;done)
 ·obtain⟨k,t,e⟩:=hn h
  rw [show m' =(retime m k t 0 t.period).2 from congrArg Prod.snd e,hr]
  exact gp _
 ·split at h
  ·rename_i m0 hm0
   obtain⟨k,t,e⟩:=hn h
   rw [show m' =(retime m0 k t _ _).2 from congrArg Prod.snd e,hr,ho hm0]
   exact gp _
  ·cases h
 ·simp only [Except.ok.injEq,Prod.mk.injEq]at h
  rw [←h.2]
  exact gp _
theorem GV{fr:Frame}{m:String}{g:Goroutine}(h:endThrow fr m w= .go g w' es):w.drawn≤w'.drawn:=by
 have:=rM fr m w
 rw [h]at this
 exact this
theorem HQ(m m' :Machine)(i:Nat)(b:Bool)(h:(runT P m i b).1= .next m'):m.world.drawn≤m'.world.drawn:=by
  simp only [runT]at h
  revert h
  generalize m.gs.swapAt! _ _=gg
  have hs:=Mp (P:=P) (i==0) b gg.1 m.world
  revert hs
  generalize stepG P _ gg.1 m.world b=s
  intro hs h
  cases s<;>simp only []at h
  all_goals first
    |(simp at h;done)
    |exact kY hs (yp _ _ _ _ _ _ _ _ _ h)
    |exact kY hs (BR _ _ _ _ h)
    |(simp only [xk]at h;subst h;exact hs)
    |(repeat' first
        |(simp at h;done)
        |(simp only [xk]at h;subst h;exact hs)
        |(simp only [xk]at h;subst h;exact kY hs (CR (by assumption)))
        |(simp only [xk]at h;subst h;exact kY hs (GV (by assumption)))
        |split at h)
theorem F9(m m' :Machine)(k:Nat)(h:serve P m k= .next m'):m.world.drawn≤m'.world.drawn:=by
 unfold serve at h
 simp only []at h
 repeat' first
  |(simp at h;done)
  |(simp only [xk]at h;subst h;exact gp _)
  |split at h
theorem G7(m m' :Machine)(ops:Array MemOp)(h:askOn P m= .machine (.next m') ops):m.world.drawn≤m'.world.drawn:=by
 unfold askOn at h
 simp only []at h
 repeat' first
  |(simp at h;done)
  |(simp only [Move.machine.injEq]at h;exact kY (cJ (by assumption)) (F9 _ _ _ h.1))
  |(simp only [Move.machine.injEq,xk]at h;obtain⟨rfl,_⟩:=h;(try simp only [Machine.advanceTo]);exact cJ (by assumption))
  |(simp only [Move.machine.injEq,xk]at h;obtain⟨rfl,_⟩:=h;(try simp only [Machine.advanceTo]);exact kY (cJ (by assumption)) (cJ (by assumption)))
  |split at h
theorem DI{gs:Array Goroutine}{rest:Rest}{t:Nat}{x:α}(h:s.run P (Machine.advanceTo {world:=w,gs:=gs,rest:=rest} t).world= .ok x w'):w.drawn≤w'.drawn:=by
 have:=cJ h
 simpa only [Machine.advanceTo] using this
theorem Fv(m m' :Machine)(i:Nat)(h:askOn P m= .goroutine m' i):m.world.drawn≤m'.world.drawn:=by
  unfold askOn at h
  simp only []at h
  repeat' first
    |(simp at h;done)
    |(simp only [Move.goroutine.injEq]at h;rw [←h.1];(try simp only [Machine.advanceTo]);first
        |exact cJ (by assumption)
        |exact kY (cJ (by assumption)) (cJ (by assumption))
        |exact kY (cJ (by assumption)) (kY (cJ (by assumption)) (cJ (by assumption)))
        |exact kY (cJ (by assumption)) (kY (cJ (by assumption)) (kY (cJ (by assumption)) (cJ (by assumption))))
        |exact kY (cJ (by assumption)) (kY (cJ (by assumption)) (DI (by assumption)))
        |exact kY (cJ (by assumption)) (kY (cJ (by assumption)) (kY (DI (by assumption)) (cJ (by assumption)))))
    |split at h
theorem Cn(m:Machine):(∃m₂:Machine,m.world.drawn≤m₂.world.drawn∧ask P m=askOn P m₂)∨(∃o w,ask P m= .machine (.ended o w) #[]):=by
 unfold ask
 by_cases hw:m.rest.watch=true
 ·rw [dy hw]
  cases hc:(choose (.extern "collector.look" 2)).run P m.world with
  |halt h w=>exact .inr ⟨_,_,rfl⟩
  |ok k world=>
   have e1:=cJ hc
   rcases k with _|_|k
   ·exact .inl ⟨{m with world},e1,rfl⟩
   ·show(∃m₂:Machine,m.world.drawn≤m₂.world.drawn∧(match Go.look P m.gs m.rest world with| .next m=>askOn P m|e=>Move.machine e)=askOn P m₂)∨
     (∃o w,(match Go.look P m.gs m.rest world with| .next m=>askOn P m|e=>Move.machine e)= .machine (.ended o w) #[])
    cases hl:Go.look P m.gs m.rest world with
    |next m₂=>exact .inl ⟨m₂,kY e1 (BR _ _ _ _ hl),rfl⟩
    |ended o w=>exact .inr ⟨o,w,rfl⟩
   ·exact .inl ⟨{m with world},e1,rfl⟩
 ·simp only [hw,wL,qw]
  exact .inl ⟨m,gp _,rfl⟩
theorem Ij(m m' :Machine)(ops:Array MemOp)(h:move P m= .machine (.next m') ops):m.world.drawn≤m'.world.drawn:=by
 have ha: ∀m1:Machine,m1.world.drawn=m.world.drawn→ask P m1= .machine (.next m') ops→m.world.drawn≤m'.world.drawn:=fun m1 e h=>by
  rcases Cn (P:=P) m1 with⟨m₂,hs,he⟩|⟨o,w,he⟩
  ·rw [he]at h;rw [←e];exact kY hs (G7 m₂ m' ops h)
  ·rw [he]at h;simp at h
 unfold move at h
 repeat' first
  |(simp at h;done)
  |(refine ha _ ?_ h;rfl)
  |split at h
theorem Gz(m m' :Machine)(i:Nat)(h:move P m= .goroutine m' i):m.world.drawn≤m'.world.drawn:=by
 have ha: ∀m1:Machine,m1.world.drawn=m.world.drawn→ask P m1= .goroutine m' i→m.world.drawn≤m'.world.drawn:=fun m1 e h=>by
  rcases Cn (P:=P) m1 with⟨m₂,hs,he⟩|⟨o,w,he⟩
  ·rw [he]at h;rw [←e];exact kY hs (Fv m₂ m' i h)
  ·rw [he]at h;cases h
 unfold move at h
 repeat' first
  |(simp at h;done)
  |(refine ha _ ?_ h;rfl)
  |(simp only [Move.goroutine.injEq]at h;rw [←h.1];exact gp _)
  |split at h
theorem HE(h:step P m= .next m'):m.world.drawn≤m'.world.drawn:=by
 simp only [step,stepT]at h
 split at h
 ·rename_i m₁ i hm
  exact kY (Gz m m₁ i hm) (HQ m₁ m' i _ h)
 ·rename_i s ops hm
  simp only []at h
  subst h
  exact Ij m m' ops hm
theorem zR(h:Steps P m m'):m.world.drawn≤m'.world.drawn:=by
 obtain⟨n,hn⟩:=h
 induction n generalizing m with
 |zero=>simp only [runN,xk]at hn;rw [hn];exact gp _
 |succ n ih=>
  simp only [runN]at hn
  split at hn
  ·rename_i m1 h1
   exact kY (HE h1) (ih hn)
  ·rename_i hx
   exact absurd hn (hx _)
theorem G6{args:Array Value}(h:Calls P f args w R)(ho: ∀w',¬R .outgrown w'):Calls P f args w fun e w' =>R e w' ∧w.drawn≤w'.drawn:=fun cs=>by
 obtain⟨e,w',fr,hr,hc,h2⟩:=h cs
 refine⟨e,w',fr,⟨hr,?_⟩,hc,h2⟩
 cases e with
 |outgrown=>exact absurd hr (ho w')
 |returned v=>exact zR (show Steps P _ _ from hc)
 |panicked c=>exact zR (show Steps P _ _ from hc)
end

def fw(r:Option Nat):Fence:={fn:=fun _=>True,depth:=none,alive:=false,round:=r}
theorem kW{r:Option Nat}{n:Nat}{P:Program}{args:Array Value}:CallsIn (fw r) n P f args w R↔Calls P f args w R:=callsIn_wide
theorem GM{r:Option Nat}{n:Nat}:(fw r).depth.isSome=true→1≤n:=fun h=>by cases h
structure En where
 P:Program
 N:Fr
 B:Nat→Prop
 w0:World
 S0:SH
 r:Option Nat
def En.base(E:En):Nat:=E.w0.heap.size

def SO(P:Program)(o:Oper)(a:Act)(K:Act→World→Prop):Result Next→Prop
 | .ok (.value v) w' =>K (a.put o.dst v) w'
 | .ok .skip w' =>K (a.put o.dst undef) w'
 | .ok (.enter f args) w' =>Calls P f args w' fun e w'' => ∃v,e= .returned v∧K (a.put o.dst v) w''
 | .ok (.round l f tmps assign body) w' =>RoundIn (fw none) 0 P l f tmps assign body w' fun e w'' => ∃v,e= .returned v∧K (a.put o.dst v) w''
 |_=>False
def Gw(P:Program)(o:Oper)(a:Act)(w:World)(K:Act→World→Prop):Prop:=(∀c,o.op≠ .defer c)∧SO P o a K ((execOp a.eval o).run P w)
theorem HS{r:Option Nat}{n:Nat}{P:Program}{l:Nat}{tmps:Array Value}{assign body:Code}(h:RoundIn (fw none) 0 P l f tmps assign body w R):RoundIn (fw r) n P l f tmps assign body w R:=
 ⟨trivial,fun c cs _=>h.2 c cs (fun _ hd=>by cases hd)⟩
variable{K K' :Act→World→Prop}
theorem MB{P:Program}(hK: ∀a w,K a w→K' a w){r:Result Next}(h:SO P o a K r):SO P o a K' r:=by
 cases r with
 |ok n w=>
  cases n<;>simp only [SO]at h ⊢
  case value=>exact hK _ _ h
  case skip=>exact hK _ _ h
  case enter f args=>exact h.mono fun e w' ⟨v,he,hk⟩=>⟨v,he,hK _ _ hk⟩
  case round l f tmps assign body=>exact h.mono fun e w' ⟨v,he,hk⟩=>⟨v,he,hK _ _ hk⟩
 |halt x w=>simp only [SO]at h
theorem lz{P:Program}(hK: ∀a w,K a w→K' a w)(h:Gw P o a w K):Gw P o a w K' :=⟨h.1,MB hK h.2⟩
variable{Q:Exit→Act→World→Prop}
theorem jK{P:Program}{r:Option Nat}(hK: ∀a w,K a w→K' a w)(h:Gw P o a w K):o.wpIn (fw r) 0 P a w K' Q:=by
 obtain⟨hd,h⟩:=h
 refine⟨fun _ _=>trivial,?_⟩
 rw [Oper.semAt_eq _ _ _ hd]
 generalize (execOp a.eval o).run P w=res at h
 cases res with
 |ok n w=>
  cases n<;>simp only [SO]at h<;>simp only [Oper.uponIn]
  case value=>exact hK _ _ h
  case skip=>exact hK _ _ h
  case enter f args=>exact⟨GM,kW.2 (h.mono fun e w' ⟨v,he,hk⟩=>by subst he;exact hK _ _ hk)⟩
  case round l f tmps assign body=>exact⟨GM,(HS h).mono fun e w' ⟨v,he,hk⟩=>by subst he;exact hK _ _ hk⟩
 |halt x w=>simp only [SO]at h

def bS(E:En)(O:List OE)(G:kb)(o:Oper)(t:Ty):Prop:=
 ∀a w S,gR w S→dp E.base E.B w S O→co E.N S a G→
  Gw E.P o a w (fun a' w' => ∃v S',a' =a.put o.dst v∧fM om w S w' S' ∧gR w' S' ∧t.p S' v)
structure St(E:En)(O:List OE)(G:kb)(a:Act)(w:World)(S:SH):Prop where
 ext:fM E.B E.w0 E.S0 w S
 sat:gR w S
 own:dp E.base E.B w S O
 facts:co E.N S a G
def RG(E:En)(ops:Array Oper)(Q:Exit→Act→World→Prop)(l:List Oper)(O:List OE)(G:kb):Prop:= ∀a w S,St E O G a w S→wpListIn (fw E.r) 0 E.P ops Q l a w
def CG(E:En)(Q:Exit→Act→World→Prop)(c:Code)(O:List OE)(G:kb):Prop:= ∀a w S,St E O G a w S→c.wpIn (fw E.r) 0 E.P Q a w
def AT(E:En)(Q:Exit→Act→World→Prop)(e:Exit)(O:List OE)(G:kb):Prop:= ∀a w S,St E O G a w S→Q e a w

variable{after:Array Edge}{fn:Func}{pos:String}{ts:List Ty}{y:OE}
section
variable{E:En}{G' :kb}{l:List Oper}
theorem St.step{t:Ty}(h:St E O G a w S)(k:fM om w S w' S')(hs:gR w' S')(hd:Nat.blt d E.N.n=true)(hv:t.p S' v):
  St E O ((d,t)::G) (a.put (some d) v) w' S' :=
 ⟨h.ext.step0 k,hs,h.own.ext0 k,(h.facts.mono k.keep).put hd hv⟩
theorem St.sub(h:St E O G a w S)(k:HD G' G):St E O G' a w S:=⟨h.ext,h.sat,h.own,h.facts.sub (Dr k)⟩
theorem RG.of(hg:o.guard=none)(h: ∀a w S,St E O G a w S→Gw E.P o a w (fun a' w' =>wpListIn (fw E.r) 0 E.P ops Q l a' w')):RG E ops Q (o::l) O G:=fun a w S st=>
 wpListIn_plain hg fun _ hK=>jK hK (h a w S st)

theorem NM{op:Op}{ty:TypeId}{t:Ty}(h:bS E O G ⟨some d,op,ty,pos,after,none⟩ t)(hd:Nat.blt d E.N.n=true)(k:RG E ops Q l O ((d,t)::G)):
  RG E ops Q (⟨some d,op,ty,pos,after,none⟩::l) O G:= .of rfl fun a w S st=>
 lz (fun a' w' ⟨_,_,ha,he,hs,hv⟩=>by subst ha;exact k _ _ _ (st.step he hs hd hv)) (h a w S st.sat st.own st.facts)
theorem aH(h:AT E Q .normal O G):RG E ops Q [] O G:=fun a w S st=>h a w S st
theorem ai{id:Nat}{l:List Oper}(h:RG E l.toArray Q l O G):CG E Q (.region id l.toArray false) O G:=fun a w S st=>wpIn_region_lit (h a w S st)
theorem ae{x y:Code}(h:CG E (Exit.then (y.wpIn (fw E.r) 0 E.P Q) Q) x O G):CG E Q (.seq x y) O G:=fun a w S st=>wpIn_seq (h a w S st)
theorem au{y:Code}(h:CG E Q y O G):AT E (Exit.then (y.wpIn (fw E.r) 0 E.P Q) Q) .normal O G:=h
theorem bA(h:AT E Q .normal O G):CG E Q .skip O G:=fun a w S st=>wpIn_skip (h a w S st)
theorem bg{id:Nat}(h:AT E Q (.exit id) O G):CG E Q (.exit id) O G:=fun a w S st=>wpIn_exit (h a w S st)
theorem aj(h:AT E Q .ret O G):CG E Q .ret O G:=fun a w S st=>wpIn_ret (h a w S st)
theorem IQ(h:CG E Q c O G')(k:HD G' G):CG E Q c O G:=fun a w S st=>h a w S (st.sub k)
theorem bL{e:Exit}(h:AT E Q e O G')(k:HD G' G):AT E Q e O G:=fun a w S st=>h a w S (st.sub k)
theorem oj{c:Operand}{x y:Code}(hb:aE E.N G c (tD rB b))(hx:b=true→CG E Q x O G)(hy:b=false→CG E Q y O G):CG E Q (.cond c x y) O G:=fun a w S st=>by
 have hv:a.eval c= .bool b:=gi.1 (hb S a st.facts)
 refine wpIn_cond hv ?_
 cases b with
 |true=>exact hx rfl a w S st
 |false=>exact hy rfl a w S st
theorem ax{id:Nat}(h:CG E (Exit.inBlock id Q) c O G):CG E Q (.block id c) O G:=fun a w S st=>wpIn_block (h a w S st)
def zb(r:Option Nat)(P:Program)(c:Code)(Q:Exit→Act→World→Prop)(a:Act)(w:World):Prop:=
 ∀(b:Frame) (k:List Item) (cs:List Frame),b.roundOf=r→ ∃e a' w',Q e a' w' ∧ArrivesIn (Machine.fenced P (fw r)) P (lone (b.atR a (.code c:: .inLoop c::k)) cs w) b k cs e a' w'
theorem Jn{r:Option Nat}{n:Nat}:(fw r).room n:=fun _ hd=>by cases hd
theorem Ey{r:Option Nat}{P:Program}{Q:Exit→Act→World→Prop}(h:zb r P c Q a w):(Code.loop c).wpIn (fw r) 0 P Q a w:=fun b k cs hro hb hr=>
 let⟨e,a',w',hq,harr⟩:=h b k cs hro
 ⟨e,a',w',hq,.of_steps (.one (fenced_calm hb hr rfl) stepR_loop) harr⟩
theorem C4{r:Option Nat}{P:Program}{Q:Exit→Act→World→Prop}(h:c.wpIn (fw r) 0 P (Exit.then (zb r P c Q) Q) a w):zb r P c Q a w:=by
 intro b k cs hro
 obtain⟨e,a₁,w₁,hq,harr⟩:=h b (.inLoop c::k) cs hro trivial Jn
 cases e with
 |normal=>
  obtain⟨e₂,a₂,w₂,hq₂,harr₂⟩:=hq b k cs hro
  exact⟨e₂,a₂,w₂,hq₂,.of_steps (StepsIn.trans harr (.one (fenced_calm (n:=0) (F:=fw r) trivial Jn rfl) stepR_inLoop)) harr₂⟩
 |exit id=>exact⟨_,a₁,w₁,hq,.pass (x:= .inLoop c) rfl (fun _ _=> .inl (by simp)) harr⟩
 |goto l=>exact⟨_,a₁,w₁,hq,.pass (x:= .inLoop c) rfl (fun _ _=> .inl (by simp)) harr⟩
 |ret=>exact⟨_,a₁,w₁,hq,.pass (x:= .inLoop c) rfl (fun _ _=> .inl (by simp)) harr⟩
 |panic ch=>exact⟨_,a₁,w₁,hq,.pass (x:= .inLoop c) rfl (fun _ _=> .inl (by simp)) harr⟩
 |outgrown=>exact⟨_,a₁,w₁,hq,.pass (x:= .inLoop c) rfl (fun _ _=> .inl (by simp)) harr⟩
def LG(E:En)(Q:Exit→Act→World→Prop)(c:Code)(O:List OE)(G:kb):Prop:= ∀a w S,St E O G a w S→zb E.r E.P c Q a w
theorem bB(h:LG E Q c O G):CG E Q (.loop c) O G:=fun a w S st=>Ey (h a w S st)
theorem av(h:CG E (Exit.then (zb E.r E.P c Q) Q) c O G):LG E Q c O G:=fun a w S st=>C4 (h a w S st)
theorem aJ(h:LG E Q c O G')(k:HD G' G):LG E Q c O G:=fun a w S st=>h a w S (st.sub k)
theorem aT(h:LG E Q c O G):AT E (Exit.then (zb E.r E.P c Q) Q) .normal O G:=h
theorem ac{id:Nat}(h:AT E Q (.exit id) O G):AT E (Exit.then K Q) (.exit id) O G:=h
theorem aa(h:AT E Q .ret O G):AT E (Exit.then K Q) .ret O G:=h
theorem aC{id:Nat}(h:AT E Q .ret O G):AT E (Exit.inBlock id Q) .ret O G:=h
theorem am{id:Nat}(h:AT E Q .normal O G):AT E (Exit.inBlock id Q) .normal O G:=h
theorem aF{id:Nat}(h:AT E Q .normal O G):AT E (Exit.inBlock id Q) (.exit id) O G:=fun a w S st=>by
 simp only [Exit.inBlock,oo];exact h a w S st
theorem bM{id id' :Nat}(hne:Nat.beq id' id=false)(h:AT E Q (.exit id') O G):AT E (Exit.inBlock id Q) (.exit id') O G:=fun a w S st=>by
 have:id' ≠id:=fun e=>by subst e;simp at hne
 simp only [Exit.inBlock,this,qw];exact h a w S st

def tP(S:SH):List Ty→List Value→Prop
 |[],[]=>True
 |t::ts,v::vs=>t.p S v∧tP S ts vs
 |_,_=>False
theorem tP.mono(h:SH.le S S'): ∀{ts:List Ty} {vs:List Value},tP S ts vs→tP S' ts vs
 |[],[],_=>trivial
 |t::_,_::_,⟨h1,h2⟩=>⟨t.mono h h1,tP.mono h h2⟩
theorem tP.length: ∀{ts:List Ty} {vs:List Value},tP S ts vs→vs.length=ts.length
 |[],[],_=>rfl
 |_::_,_::_,⟨_,h2⟩=>by simp [tP.length h2]
def aN(P:Program)(f:FuncId)(ts:List Ty)(t:Ty):Prop:=
 ∀w S vs,gR w S→tP S ts vs→Calls P f vs.toArray w fun e w' => ∃v S',e= .returned v∧fM om w S w' S' ∧gR w' S' ∧t.p S' v
def Fo(E:En)(t:Ty):Ending→World→Prop:=fun e w' => ∃v S',e= .returned v∧fM E.B E.w0 E.S0 w' S' ∧gR w' S' ∧t.p S' v
def t7(k:Nat):List Ty→kb
 |[]=>[]
 |t::ts=>(k,t)::t7 (k+1) ts
theorem BQ: ∀(ts:List Ty) (k j:Nat) (t:Ty),look (t7 k ts) j=some t→ ∃i,j=k+i∧ts[i]? =some t
 |[],_,_,_,h=>by simp [t7,look]at h
 |u::ts,k,j,t,h=>by
  unfold t7 look at h
  by_cases hb:Nat.beq k j=true
  ·rw [hb]at h
   exact⟨0,by rw [m8 hb];rfl,by simpa using h⟩
  ·rw [yM]at hb
   rw [hb]at h
   obtain⟨i,h1,h2⟩:=BQ ts (k+1) j t h
   exact⟨i+1,by omega,by simpa using h2⟩
theorem tP.at_: ∀{ts:List Ty} {vs:List Value} (_:tP S ts vs) (i:Nat) (t:Ty),ts[i]? =some t→ ∃v,vs[i]? =some v∧t.p S v
 |_::_,v::_,⟨h1,_⟩,0,t,h=>⟨v,rfl,by simp at h;rw [←h];exact h1⟩
 |_::ts,_::vs,⟨_,h2⟩,i+1,t,h=>by simpa using tP.at_ h2 i t (by simpa using h)
theorem oW{vs:List Value}(h:tP S ts vs)(n:Nat)(hn:ts.length≤n):
  co ⟨n,[]⟩ S {tmps:=vs.toArray++Array.replicate (n-vs.toArray.size) undef,defers:=[]} (t7 0 ts):=by
 have hl:=h.length
 refine⟨by simp;omega,rfl,fun j t hj=>?_⟩
 obtain⟨i,e,hi⟩:=BQ ts 0 j t hj
 have e' :j=i:=by omega
 subst e'
 obtain⟨v,hv,ht⟩:=h.at_ j t hi
 have hlt:j<vs.length:=(ox.1 hv).1
 have:(vs.toArray++Array.replicate (n-vs.toArray.size) undef).getD j undef=v:=by
  rw [FN,Array.getElem?_append_left (by simpa using hlt)]
  simp [hv]
 rw [this];exact ht
theorem Fy{P:Program}{t:Ty}(hf:P.funcs[f]? =some fn)(hb:fn.body=some c)(hn:ts.length≤fn.ntmps)(h: ∀w0 S0,CG ⟨P,⟨fn.ntmps,[]⟩,om,w0,S0,none⟩ (bodyPost P fn (Fo ⟨P,⟨fn.ntmps,[]⟩,om,w0,S0,none⟩ t)) c [] (t7 0 ts)):aN P f ts t:=by
 intro w S vs hs hv
 exact kW.1 (callsIn_of_wp (F:=fw none) (n:=0) hf hb trivial (h w S _ w S ⟨fR _ _ _,hs,trivial,oW hv _ hn⟩))
theorem m2(P:Program)(fn:Func)(k:Nat)(h:fn.results= #[.tmp k])(tmps:Array Value)(w:World):(results fn tmps).run P w= .ok (tmps.getD k undef) w:=by
 simp [results,h]
theorem aB{P:Program}{N:Nat}{B:Nat→Prop}{w0:World}{S0:SH}{t:Ty}(hr:fn.results= #[.tmp k])(hk:look G k=some t):
  AT ⟨P,⟨N,[]⟩,B,w0,S0,none⟩ (bodyPost P fn (Fo ⟨P,⟨N,[]⟩,B,w0,S0,none⟩ t)) .ret O G:=fun _ _ S st=>
 ⟨st.facts.defers,_,m2 P fn k hr _ _,_,S,rfl,st.ext,st.sat,st.facts.at_ k t hk⟩
def tT(ts:List Ty):Ty where
 p:=fun S v=> ∃vs,v= .tuple vs.toArray∧tP S ts vs
 mono:=fun h k=>by obtain⟨vs,e,k⟩:=k;exact⟨vs,e,tP.mono h k⟩
theorem AD(P:Program)(fn:Func)(j k:Nat)(h:fn.results= #[.tmp j,.tmp k])(tmps:Array Value)(w:World):(results fn tmps).run P w= .ok (.tuple #[tmps.getD j undef,tmps.getD k undef]) w:=by
 simp [results,h]
theorem d5{P:Program}{N:Nat}{B:Nat→Prop}{w0:World}{S0:SH}{t u:Ty}(hr:fn.results= #[.tmp j,.tmp k])(hj:look G j=some t)(hk:look G k=some u):
  AT ⟨P,⟨N,[]⟩,B,w0,S0,none⟩ (bodyPost P fn (Fo ⟨P,⟨N,[]⟩,B,w0,S0,none⟩ (tT [t,u]))) .ret O G:=fun _ _ S st=>
 ⟨st.facts.defers,_,AD P fn j k hr _ _,_,S,rfl,st.ext,st.sat,[_,_],rfl,st.facts.at_ j t hj,st.facts.at_ k u hk,trivial⟩
theorem xC(P:Program)(fn:Func)(i j k:Nat)(h:fn.results= #[.tmp i,.tmp j,.tmp k])(tmps:Array Value)(w:World):(results fn tmps).run P w= .ok (.tuple #[tmps.getD i undef,tmps.getD j undef,tmps.getD k undef]) w:=by
 simp [results,h]
theorem ol{P:Program}{N:Nat}{B:Nat→Prop}{w0:World}{S0:SH}{s t u:Ty}(hr:fn.results= #[.tmp i,.tmp j,.tmp k])(hi:look G i=some s)(hj:look G j=some t)(hk:look G k=some u):
  AT ⟨P,⟨N,[]⟩,B,w0,S0,none⟩ (bodyPost P fn (Fo ⟨P,⟨N,[]⟩,B,w0,S0,none⟩ (tT [s,t,u]))) .ret O G:=fun _ _ S st=>
 ⟨st.facts.defers,_,xC P fn i j k hr _ _,_,S,rfl,st.ext,st.sat,[_,_,_],rfl,st.facts.at_ i s hi,st.facts.at_ j t hj,st.facts.at_ k u hk,trivial⟩
theorem sB(P:Program)(fn:Func)(h:fn.results= #[])(tmps:Array Value)(w:World):(results fn tmps).run P w= .ok (.tuple #[]) w:=by
 simp [results,h]
end

variable{dst:Option Tmp}{k' :IntKind}
section
variable{E:En}{ty:TypeId}
theorem bS.of_run{t:Ty}(h: ∀a w S,gR w S→dp E.base E.B w S O→co E.N S a G→
  ∃v w' S',(execOp a.eval o).run E.P w= .ok (.value v) w' ∧fM om w S w' S' ∧gR w' S' ∧t.p S' v)(hd: ∀c,o.op≠ .defer c:=by intro c h;cases h):bS E O G o t:=fun a w S hs ho hf=>by
 obtain⟨v,w',S',hr,he,hs',hv⟩:=h a w S hs ho hf
 refine⟨hd,?_⟩
 rw [hr]
 exact⟨v,S',rfl,he,hs',hv⟩
theorem bS.of_pure{t:Ty}(h: ∀a w S,gR w S→dp E.base E.B w S O→co E.N S a G→ ∃v,(execOp a.eval o).run E.P w= .ok (.value v) w∧t.p S v)(hd: ∀c,o.op≠ .defer c:=by intro c h;cases h):bS E O G o t:=
 .of_run (fun a w S hs ho hf=>let⟨v,hr,hv⟩:=h a w S hs ho hf;⟨v,w,S,hr,fR _ _ _,hs,hv⟩) hd

theorem bl{t:Ty}(hx:aE E.N G x t):bS E O G ⟨dst,.move x,ty,pos,after,g⟩ t:=
 .of_pure fun a _ S _ _ hf=>⟨a.eval x,rfl,hx S a hf⟩
theorem bm{t:Ty}(hx:aE E.N G x t):bS E O G ⟨dst,.assign x,ty,pos,after,g⟩ t:=
 .of_pure fun a _ S _ _ hf=>⟨a.eval x,rfl,hx S a hf⟩
theorem vJ{c y:Operand}{t:Ty}(hc:aE E.N G c (tD rB b))(hx:b=true→aE E.N G x t)(hy:b=false→aE E.N G y t):bS E O G ⟨dst,.pick c x y,ty,pos,after,g⟩ t:=
 .of_pure fun a _ S _ _ hf=>by
  have h1:a.eval c= .bool b:=gi.1 (hc S a hf)
  refine⟨if b then a.eval x else a.eval y,by simp [execOp,h1,asBool],?_⟩
  cases b with
  |true=>exact hx rfl S a hf
  |false=>exact hy rfl S a hf

section
variable{xt yt:TypeId}{y:Operand}{k:IntKind}{m n:Int}
theorem Ac{P:Program}{op:BinOp}{xt:TypeId}{x y:Operand}{k:IntKind}{m n:Int}:(eqGuard op xt x y (.int k m) (.int k' n)).run P w= .ok () w:=by
 unfold eqGuard
 cases op<;>rfl
theorem pI{op:BinOp}{t:Ty}(hx:aE E.N G x (tD (rI k) m))(hy:aE E.N G y (tD (rI k) n))(hv: ∀P w,(binOp op xt (.int k m) (.int k n)).run P w= .ok v w)(ht: ∀S,t.p S v):
  bS E O G ⟨dst,.binOp op xt x y yt,ty,pos,after,g⟩ t:=
 .of_pure fun a w S _ _ hf=>by
  have h1:a.eval x= .int k m:=cZ.1 (hx S a hf)
  have h2:a.eval y= .int k n:=cZ.1 (hy S a hf)
  refine⟨v,?_,ht S⟩
  simp [execOp,h1,h2,Ac,hv]
theorem jZ(hx:aE E.N G x (tD (rI k) m))(hy:aE E.N G y (tD (rI k) n)):bS E O G ⟨dst,.binOp .add xt x y yt,ty,pos,after,g⟩ (tD (rI k) (k.wrap (m+n))):=
 pI hx hy (fun _ _=>by simp [binOp,Op.intArith]) (fun _=>cZ.2 rfl)
theorem fK(hx:aE E.N G x (tD (rI k) m))(hy:aE E.N G y (tD (rI k) n)):bS E O G ⟨dst,.binOp .sub xt x y yt,ty,pos,after,g⟩ (tD (rI k) (k.wrap (m-n))):=
 pI hx hy (fun _ _=>by simp [binOp,Op.intArith]) (fun _=>cZ.2 rfl)
theorem uX(hx:aE E.N G x (tD (rI k) m))(hy:aE E.N G y (tD (rI k) n)):bS E O G ⟨dst,.binOp .mul xt x y yt,ty,pos,after,g⟩ (tD (rI k) (k.wrap (m*n))):=
 pI hx hy (fun _ _=>by simp [binOp,Op.intArith]) (fun _=>cZ.2 rfl)
theorem Ia(hx:aE E.N G x (tD (rI k) m))(hy:aE E.N G y (tD (rI k) n))(h0:n≠0):bS E O G ⟨dst,.binOp .quo xt x y yt,ty,pos,after,g⟩ (tD (rI k) (k.wrap (m.tdiv n))):=
 pI hx hy (fun _ _=>by simp [binOp,Op.intDiv,h0]) (fun _=>cZ.2 rfl)
theorem dI(hx:aE E.N G x (tD (rI k) m))(hy:aE E.N G y (tD (rI k) n)):bS E O G ⟨dst,.binOp .lss xt x y yt,ty,pos,after,g⟩ (tD rB (decide (m<n))):=
 pI hx hy (fun _ _=>by simp [binOp,Op.intCmp]) (fun _=>gi.2 rfl)
theorem iT(hx:aE E.N G x (tD (rI k) m))(hy:aE E.N G y (tD (rI k) n)):bS E O G ⟨dst,.binOp .leq xt x y yt,ty,pos,after,g⟩ (tD rB (decide (m≤n))):=
 pI hx hy (fun _ _=>by simp [binOp,Op.intCmp]) (fun _=>gi.2 rfl)
theorem gx(hx:aE E.N G x (tD (rI k) m))(hy:aE E.N G y (tD (rI k) n)):bS E O G ⟨dst,.binOp .gtr xt x y yt,ty,pos,after,g⟩ (tD rB (decide (n<m))):=
 pI hx hy (fun _ _=>by simp [binOp,Op.intCmp]) (fun _=>gi.2 rfl)
theorem dQ(hx:aE E.N G x (tD (rI k) m))(hy:aE E.N G y (tD (rI k) n)):bS E O G ⟨dst,.binOp .geq xt x y yt,ty,pos,after,g⟩ (tD rB (decide (n≤m))):=
 pI hx hy (fun _ _=>by simp [binOp,Op.intCmp]) (fun _=>gi.2 rfl)
theorem bK(hx:aE E.N G x (tD (rI k) m))(hy:aE E.N G y (tD (rI k) n)):bS E O G ⟨dst,.binOp .eql xt x y yt,ty,pos,after,g⟩ (tD rB (m==n)):=
 pI hx hy (fun _ _=>by simp [binOp,Op.intCmp]) (fun _=>gi.2 rfl)
theorem dg(hx:aE E.N G x (tD (rI k) m))(hy:aE E.N G y (tD (rI k) n)):bS E O G ⟨dst,.binOp .neq xt x y yt,ty,pos,after,g⟩ (tD rB (m !=n)):=
 pI hx hy (fun _ _=>by simp [binOp,Op.intCmp]) (fun _=>gi.2 rfl)
def gM(op:BinOp)(k:IntKind)(x y:Int):Int:=
 k.wrap (match op with
  | .and=>(BitVec.ofInt k.bits x&&&BitVec.ofInt k.bits y).toNat
  | .or=>(BitVec.ofInt k.bits x|||BitVec.ofInt k.bits y).toNat
  | .xor=>(BitVec.ofInt k.bits x^^^BitVec.ofInt k.bits y).toNat
  |_=>(BitVec.ofInt k.bits x&&& ~~~BitVec.ofInt k.bits y).toNat:Nat)
theorem y9(hx:aE E.N G x (tD (rI k) m))(hy:aE E.N G y (tD (rI k) n)):bS E O G ⟨dst,.binOp .and xt x y yt,ty,pos,after,g⟩ (tD (rI k) (gM .and k m n)):=
 pI hx hy (fun _ _=>by simp [binOp,Op.intBits];rfl) (fun _=>cZ.2 rfl)
theorem uV(hx:aE E.N G x (tD (rI k) m))(hy:aE E.N G y (tD (rI k) n)):bS E O G ⟨dst,.binOp .xor xt x y yt,ty,pos,after,g⟩ (tD (rI k) (gM .xor k m n)):=
 pI hx hy (fun _ _=>by simp [binOp,Op.intBits];rfl) (fun _=>cZ.2 rfl)
theorem MD{op:BinOp}{t:Ty}(hx:aE E.N G x (tD (rI k) m))(hy:aE E.N G y (tD (rI k') n))(hv: ∀P w,(binOp op xt (.int k m) (.int k' n)).run P w= .ok v w)(ht: ∀S,t.p S v):
  bS E O G ⟨dst,.binOp op xt x y yt,ty,pos,after,g⟩ t:=
 .of_pure fun a w S _ _ hf=>by
  have h1:a.eval x= .int k m:=cZ.1 (hx S a hf)
  have h2:a.eval y= .int k' n:=cZ.1 (hy S a hf)
  refine⟨v,?_,ht S⟩
  simp [execOp,h1,h2,Ac,hv]
theorem uW(hx:aE E.N G x (tD (rI k) m))(hy:aE E.N G y (tD (rI k') n))(h0:0≤n):bS E O G ⟨dst,.binOp .shr xt x y yt,ty,pos,after,g⟩ (tD (rI k) (m.fdiv (2^(min n.toNat k.bits)))):=
 MD hx hy (fun _ _=>by simp [binOp,Op.shift,Int.not_lt.2 h0]) (fun _=>cZ.2 rfl)
theorem ME(hx:aE E.N G x (tD (rI k) m)):bS E O G ⟨dst,.unOp .neg xt x,ty,pos,after,g⟩ (tD (rI k) (k.wrap (0-m))):=
 .of_pure fun a w S _ _ hf=>by
  have h1:a.eval x= .int k m:=cZ.1 (hx S a hf)
  exact⟨.int k (k.wrap (0-m)),by simp [execOp,h1,Op.unary,Op.intArith],cZ.2 rfl⟩
theorem SQ(hx:aE E.N G x (tD (rI k) m)):bS E O G ⟨dst,.unOp .xor xt x,ty,pos,after,g⟩ (tD (rI k) (gM .xor k (if k.signed then -1 else k.max) m)):=
 .of_pure fun a w S _ _ hf=>by
  have h1:a.eval x= .int k m:=cZ.1 (hx S a hf)
  exact⟨_,by simp [execOp,h1,Op.unary,Op.intBits];rfl,cZ.2 rfl⟩
theorem dH(hx:aE E.N G x (tD rB b)):bS E O G ⟨dst,.unOp .not xt x,ty,pos,after,g⟩ (tD rB (!b)):=
 .of_pure fun a w S _ _ hf=>by
  have h1:a.eval x= .bool b:=gi.1 (hx S a hf)
  exact⟨.bool (!b),by simp [execOp,h1,Op.unary],gi.2 rfl⟩
theorem pf{st dt:TypeId}{d:TypeDesc}(hs:E.P.underlying st=some d)(hd:E.P.underlying dt=some (.int k'))(hx:aE E.N G x (tD (rI k) m)):
  bS E O G ⟨dst,.convert st dt x,ty,pos,after,g⟩ (tD (rI k') (k'.wrap m)):=
 .of_pure fun a w S _ _ hf=>by
  have h1:a.eval x= .int k m:=cZ.1 (hx S a hf)
  refine⟨.int k' (k'.wrap m),?_,cZ.2 rfl⟩
  simp only [execOp,h1,convert,pW,hU hs,hU hd,qz]
  cases d<;>simp [Conv.intToInt]
end

theorem sC{P:Program}(ht:P.underlying t=some .bool)(d:Nat)(b c:Bool)(w:World):(Op.equalIn (d+1) t (.bool b) (.bool c)).run P w= .ok (b==c) w:=by
 simp [Op.equalIn,hU ht]
theorem xD{P:Program}{x y:Value}(hb: ∀d,(Op.equalIn (d+1) t x y).run P w= .ok b w):(Op.equal t x y).run P w= .ok b w:=hb 9999
section
variable{xt yt:TypeId}{y:Operand}
theorem Jf{c:Bool}(ht:E.P.underlying xt=some .bool)(hx:aE E.N G x (tD rB b))(hy:aE E.N G y (tD rB c)):bS E O G ⟨dst,.binOp .eql xt x y yt,ty,pos,after,g⟩ (tD rB (b==c)):=
 .of_pure fun a w S _ _ hf=>by
  have h1:a.eval x= .bool b:=gi.1 (hx S a hf)
  have h2:a.eval y= .bool c:=gi.1 (hy S a hf)
  exact⟨.bool (b==c),by simp [execOp,h1,h2,eqGuard,binOp,xD (fun d=>sC ht d b c w)],gi.2 rfl⟩
theorem EY{c:Bool}(ht:E.P.underlying xt=some .bool)(hx:aE E.N G x (tD rB b))(hy:aE E.N G y (tD rB c)):bS E O G ⟨dst,.binOp .neq xt x y yt,ty,pos,after,g⟩ (tD rB (b !=c)):=
 .of_pure fun a w S _ _ hf=>by
  have h1:a.eval x= .bool b:=gi.1 (hx S a hf)
  have h2:a.eval y= .bool c:=gi.1 (hy S a hf)
  exact⟨.bool (b !=c),by simp [execOp,h1,h2,eqGuard,binOp,xD (fun d=>sC ht d b c w)];cases b<;>cases c<;>rfl,gi.2 rfl⟩
theorem MC{op:BinOp}{s u:im}(hx:aE E.N G x (tD rS s))(hy:aE E.N G y (tD rS u))(hv: ∀P w,(Op.stringOp op ⟨s.toArray⟩ ⟨u.toArray⟩).run P w= .ok (.bool b) w)(hg: ∀P w,(eqGuard op xt x y (.string ⟨s.toArray⟩) (.string ⟨u.toArray⟩)).run P w= .ok () w)(hb: ∀P w,(binOp op xt (.string ⟨s.toArray⟩) (.string ⟨u.toArray⟩)).run P w=(Op.stringOp op ⟨s.toArray⟩ ⟨u.toArray⟩).run P w):
  bS E O G ⟨dst,.binOp op xt x y yt,ty,pos,after,g⟩ (tD rB b):=
 .of_pure fun a w S _ _ hf=>by
  have h1:a.eval x= .string ⟨s.toArray⟩:=qI.1 (hx S a hf)
  have h2:a.eval y= .string ⟨u.toArray⟩:=qI.1 (hy S a hf)
  refine⟨.bool b,?_,gi.2 rfl⟩
  simp [execOp,h1,h2,hg,hb,hv]
theorem AV{s u:im}(hx:aE E.N G x (tD rS s))(hy:aE E.N G y (tD rS u)):bS E O G ⟨dst,.binOp .eql xt x y yt,ty,pos,after,g⟩ (tD rB (s==u)):=
 MC hx hy (fun _ _=>by simp [Op.stringOp]) (fun _ _=>rfl) (fun _ _=>rfl)
theorem OC{s u:im}(hx:aE E.N G x (tD rS s))(hy:aE E.N G y (tD rS u)):bS E O G ⟨dst,.binOp .neq xt x y yt,ty,pos,after,g⟩ (tD rB (!(s==u))):=
 MC hx hy (fun _ _=>by simp [Op.stringOp]) (fun _ _=>rfl) (fun _ _=>rfl)
end
end

def MQ:TypeDesc→Bool
 | .struct _| .array _ _=>true
 |_=>false
structure TI(P:Program)(T:TypeId)(sz bytes:Nat)(agg:Bool)(z:List Value):Prop where
 info:(P.info? T).map (fun i=>(i.zero.map (·.cells.toList),i.size,i.bytes))=some (some z,sz,bytes)
 ag:(P.underlying T).map MQ=some agg
variable{T:TypeId}{z:List Value}
section
variable{P:Program}{sz:Nat}{agg:Bool}
theorem TI.get(h:TI P T sz bytes agg z): ∃i zv,P.info? T=some i∧i.size=sz∧i.bytes=bytes∧i.zero=some zv∧zv.cells=z.toArray:=by
 have:=h.info
 cases hi:P.info? T with
 |none=>rw [hi]at this;simp at this
 |some i=>
  rw [hi]at this
  simp only [Da,Option.some.injEq,Prod.mk.injEq,Option.map_eq_some_iff]at this
  obtain⟨⟨zv,h1,h2⟩,h3,h4⟩:=this
  exact⟨i,zv,rfl,h3,h4,h1,by rw [←h2]⟩
theorem TI.sizeOf(h:TI P T sz bytes agg z)(w:World):(Go.sizeOf T).run P w= .ok sz w:=by
 obtain⟨i,zv,h1,h2,_⟩:=h.get
 simp [Go.sizeOf,typeInfo,h1,h2]
theorem TI.isAgg(h:TI P T sz bytes agg z)(w:World):(Go.isAgg T).run P w= .ok agg w:=by
 have:=h.ag
 cases hi:P.underlying T with
 |none=>rw [hi]at this;simp at this
 |some d=>
  rw [hi]at this
  simp only [Da,Option.some.injEq]at this
  simp only [Go.isAgg,pW,hU hi,qz]
  rw [←this]
  cases d<;>simp [MQ]
theorem TI.zero(h:TI P T sz bytes agg z)(w:World): ∃zv,(zeroValue T).run P w= .ok zv w∧zv.cells=z.toArray:=by
 obtain⟨i,zv,h1,_,_,h4,h5⟩:=h.get
 exact⟨zv,by simp [zeroValue,typeInfo,h1,h4],h5⟩
end

theorem gA(b off i:Nat):(⟨b,off,none⟩:Addr).add i=⟨b,off+i,none⟩:=by
 unfold Addr.add
 split
 ·simp_all
 ·rfl
theorem vV{b:Nat}{c:Array Value}(h:w.heap[b]? =some (.cells c T fr))(i:Nat):w.cell? ⟨b,i,none⟩=c[i]? :=by
 simp [World.cell?,h]
theorem y4{P:Program}{b n:Nat}{c:Array Value}(h:w.heap[b]? =some (.cells c T fr))(hcs:(c.toList.drop off).take n=cs)(hl:cs.length=n):
  (loadCells ⟨b,off,none⟩ n).run P w= .ok cs.toArray w:=by
 rw [←hl]
 refine run_loadCells_list w ⟨b,off,none⟩ cs fun j v hv=>?_
 rw [gA,vV h]
 have hj:j<cs.length:=(ox.1 hv).1
 rw [←hcs,yN (by omega),ul]at hv
 simpa using hv
theorem jl{P:Program}{b:Nat}{c:Array Value}{U:TypeId}{sz:Nat}{agg:Bool}(ti:TI P U sz bytes agg z)(h:w.heap[b]? =some (.cells c T fr)){r:Rp α}(hsz:r.sz=sz)(hag:r.agg=agg){x:α}(hx:r.rc S ((c.toList.drop off).take r.sz) x):
  (loadVar U ⟨b,off,none⟩).run P w= .ok (r.val ((c.toList.drop off).take r.sz)) w:=by
 have hl:=r.len hx
 subst hsz
 subst hag
 simp only [loadVar,pW,ti.isAgg,qz]
 cases ha:r.agg with
 |true=>simp [ti.sizeOf,y4 h rfl hl,Rp.val,ha]
 |false=>
  have h1:=r.sc ha
  have hcell:w.cell? ⟨b,off,none⟩=some (((c.toList.drop off).take r.sz).headD undef):=by
   rw [vV h]
   rw [h1]at hl ⊢
   cases hd:c.toList.drop off with
   |nil=>rw [hd]at hl;simp at hl
   |cons v rest=>
    have:(c.toList.drop off)[0]? =some v:=by rw [hd];rfl
    rw [ul]at this
    simpa using this
  simp [hcell,Rp.val,ha]

section
variable{E:En}{ty:TypeId}
theorem aY{r:Rp α}{x:α}{U:TypeId}{p:Operand}{sz:Nat}{agg:Bool}(ti:TI E.P U sz bytes agg z)(hsz:r.sz=sz)(hag:r.agg=agg)(hp:aE E.N G p (bq r x)):
  bS E O G ⟨dst,.load U p,ty,pos,after,g⟩ (tD r x):=
 .of_pure fun a w S hs _ hf=>by
  obtain⟨b,off,c,T,fr,h1,h2,h3⟩:=hp S a hf
  obtain⟨c',h4,h5⟩:=hs.part h2 (r.len h3)
  rw [←h5]at h3
  refine⟨r.val ((c'.toList.drop off).take r.sz),?_,_,rfl,h3⟩
  simp [execOp,h1,Instr.loadAt,Instr.sureAddr,jl ti h4 hsz hag h3]

theorem J1(s:im):(ByteArray.mk s.toArray).size=s.length:=by simp [ByteArray.size]
theorem bN{r:Rp α}(ht:E.P.underlying t=some (.slice e))(hx:aE E.N G x (tD (fz r) xs)):
  bS E O G ⟨dst,.call ⟨.builtin .len,#[x],#[t]⟩,ty,pos,after,g⟩ (tD (rI .i64) (xs.length:Int)):=
 .of_pure fun a w S _ _ hf=>by
  obtain⟨ad,cap,h1,_⟩:=lP.1 (hx S a hf)
  refine⟨.int .i64 xs.length,?_,cZ.2 rfl⟩
  simp [execOp,resolve,invoke,builtin,Builtin.len_,hU ht,h1,goInt]
theorem E1{s:im}(ht:E.P.underlying t=some .string)(hx:aE E.N G x (tD rS s)):
  bS E O G ⟨dst,.call ⟨.builtin .len,#[x],#[t]⟩,ty,pos,after,g⟩ (tD (rI .i64) (s.length:Int)):=
 .of_pure fun a w S _ _ hf=>by
  have h1:a.eval x= .string ⟨s.toArray⟩:=qI.1 (hx S a hf)
  refine⟨.int .i64 s.length,?_,cZ.2 rfl⟩
  simp [execOp,resolve,invoke,builtin,Builtin.len_,hU ht,h1,goInt,J1]

def dR{α:Type}(xs:List α)(i:Int):Option α:=if 0≤i then xs[i.toNat]? else none
theorem ii(xs:List α)(i:Nat):dR xs (i:Int)=xs[i]? :=by simp [dR]
theorem KF{r:Rp α}{a:Option Addr}(h:F7 r S a xs){x:α}(hx:xs[i]? =some x):
  ∃b off c T fr,a=some ⟨b,off,none⟩∧S b=some (.cells c T fr)∧r.rc S ((c.toList.drop (off+i*r.sz)).take r.sz) x:=by
 rcases h with rfl|⟨b,off,c,T,fr,e1,e2,e3⟩
 ·simp at hx
 ·refine⟨b,off,c,T,fr,e1,e2,?_⟩
  have h:=vG e3 hx
  have hi:i<xs.length:=(ox.1 hx).1
  rw [zI,Al,ud]at h
  have:min r.sz (xs.length*r.sz-i*r.sz)=r.sz:=by
   rw [←Nat.sub_mul]
   have:1*r.sz≤(xs.length-i)*r.sz:=xl _ (by omega)
   omega
  rw [this]at h
  exact h
theorem bX{r:Rp α}{y:α}{ix:Operand}{k:IntKind}{i:Int}{sz:Nat}{agg:Bool}(ht:E.P.underlying t=some (.slice e))(ti:TI E.P e sz bytes agg z)(hsz:r.sz=sz)(hx:aE E.N G x (tD (fz r) xs))(hi:aE E.N G ix (tD (rI k) i))(hy:dR xs i=some y):
  bS E O G ⟨dst,.indexAddr t x ix,ty,pos,after,g⟩ (bq r y):=
 .of_pure fun a w S _ _ hf=>by
  obtain⟨ad,cap,h1,_,_,h2⟩:=lP.1 (hx S a hf)
  have h3:a.eval ix= .int k i:=cZ.1 (hi S a hf)
  have h0:0≤i:=by unfold dR at hy;split at hy;assumption;cases hy
  have hy' :xs[i.toNat]? =some y:=by unfold dR at hy;rw [dy h0]at hy;exact hy
  have hlt:i.toNat<xs.length:=(ox.1 hy').1
  obtain⟨b,off,c,T,fr,e1,e2,e3⟩:=KF h2 hy'
  subst e1
  refine⟨.pointer (some ⟨b,off+i.toNat*r.sz,none⟩),?_,b,_,c,T,fr,rfl,e2,e3⟩
  have hc:0≤i∧i<(xs.length:Int):=⟨h0,by omega⟩
  simp [execOp,h1,h3,Instr.indexAt,asIntOf,hU ht,hc,ti.sizeOf,gA,hsz]

def ka{α β:Type}(r:Rp α)(off:Nat)(q:Rp β)(get:α→β):Prop:= ∀S cs x,r.rc S cs x→q.rc S ((cs.drop off).take q.sz) (get x)
def bZ(P:Program)(T:TypeId)(i:Nat):Option (Nat×Nat):=
 match P.underlying T with
 |some (.struct fs)=>(fs[i]?).bind fun f=>(P.info? f.type).map fun q=>(f.offset,q.size)
 |_=>none
theorem y5{P:Program}{sz:Nat}(h:bZ P T i=some (off,sz)): ∃fs f,P.underlying T=some (.struct fs)∧fs[i]? =some f∧f.offset=off∧ ∀w,(sizeOf f.type).run P w= .ok sz w:=by
 unfold bZ at h
 split at h
 ·rename_i fs hu
  cases hf:fs[i]? with
  |none=>rw [hf]at h;simp at h
  |some f=>
   rw [hf]at h
   cases hq:P.info? f.type with
   |none=>simp [hq]at h
   |some q=>
    simp [hq]at h
    exact⟨fs,f,hu,hf,h.1,fun w=>by simp [sizeOf,typeInfo,hq,h.2]⟩
 ·cases h
theorem dh{r:Rp α}{get:α→β}{x:α}{sz:Nat}{p:Operand}(hf:bZ E.P T i=some (off,sz))(h0:Nat.beq sz 0=false)(hq:ka r off q get)(hoff:Nat.ble (off+q.sz) r.sz=true)(hp:aE E.N G p (bq r x)):bS E O G ⟨dst,.fieldAddr T p i,ty,pos,after,g⟩ (bq q (get x)):=
 .of_pure fun a w S _ _ hF=>by
  obtain⟨b,o,c,U,fr,h1,h2,h3⟩:=hp S a hF
  obtain⟨fs,f,e1,e2,e3,e4⟩:=y5 hf
  have h0' :sz≠0:=fun e=>by subst e;simp at h0
  have hoff' :off+q.sz≤r.sz:=oq hoff
  refine⟨.pointer (some ⟨b,o+off,none⟩),?_,b,_,c,U,fr,rfl,h2,?_⟩
  ·simp [execOp,h1,Instr.fieldAt,hU e1,e2,Instr.sureAddr,fieldPlace,e4,h0',e3,gA]
  ·have:=hq S _ x h3
   rw [zI,Al,ud,xi (by omega)]at this
   exact this
def ah(P:Program)(f:FuncId):Bool:=
 match P.funcs[f]? with
 |some fn=> !(fn.name== "runtime.NumGoroutine")&&fn.body.isSome
 |none=>false
theorem fx{P:Program}(h:ah P f=true)(args:Array Value)(w:World):(callFunc f args).run P w= .ok (.enter f args) w:=by
 unfold ah at h
 cases hf:P.funcs[f]? with
 |none=>rw [hf]at h;cases h
 |some fn=>
  rw [hf]at h
  simp only [iP,Ao]at h
  have h1:fn.name≠ "runtime.NumGoroutine" :=by simpa using h.1
  have h2:fn.body≠none:=fun e=>by rw [e]at h;simp at h
  simp [callFunc,hf,h1,h2]
def j6(N:Fr)(G:kb):List Operand→List Ty→Prop
 |[],[]=>True
 |x::xs,t::ts=>aE N G x t∧j6 N G xs ts
 |_,_=>False
theorem j6.tys{N:Fr}(hF:co N S a G): ∀{xs:List Operand} {ts:List Ty},j6 N G xs ts→tP S ts (xs.map a.eval)
 |[],[],_=>trivial
 |_::_,_::_,⟨h1,h2⟩=>⟨h1 S a hF,j6.tys hF h2⟩
theorem aD{xs:List Operand}{ats:Array TypeId}{t:Ty}(hc:ah E.P f=true)(hs:aN E.P f ts t)(hx:j6 E.N G xs ts):
  bS E O G ⟨dst,.call ⟨.value (.func f),xs.toArray,ats⟩,ty,pos,after,g⟩ t:=fun a w S hS _ hF=>by
 have hr:(execOp a.eval ⟨dst,.call ⟨.value (.func f),xs.toArray,ats⟩,ty,pos,after,g⟩).run E.P w= .ok (.enter f (xs.map a.eval).toArray) w:=by
  simp [execOp,resolve,Act.eval,Deferred.ofValue,invoke,fx hc]
 refine⟨fun c h=>(by cases h),?_⟩
 rw [hr]
 exact(hs w S _ hS (hx.tys hF)).mono fun e w' ⟨v,S',he,h1,h2,h3⟩=>⟨v,he,v,S',rfl,h1,h2,h3⟩
end

theorem lC{o:Obj}(h:k<w.heap.size):(w.alloc o).heap[k]? =w.heap[k]? :=RowKit.Below.heap_alloc w o k h
def SH.set(S:SH)(b:Nat)(o:Obj):SH:=fun k=>if k=b then some o else S k
theorem kF(S:SH)(b:Nat)(o:Obj):S.set b o b=some o:=dy rfl
theorem oY(S:SH){b:Nat}(o:Obj)(h:k≠b):S.set b o k=S k:=dd h
theorem sL{b:Nat}{o:Obj}(h: ∀q,S b=some q→CC q o):SH.le S (S.set b o):=fun k q hq=>by
 by_cases hk:k=b
 ·subst hk;exact⟨o,kF _ _ _,h q hq⟩
 ·exact⟨q,by rw [oY _ _ hk];exact hq,q0 q⟩
theorem gR.set(h:gR w S){b:Nat}{o:Obj}(h1:w.heap[b]? =some o')(h2:CC o o')(h3: ∀q,S b=some q→CC q o):gR w (S.set b o):=by
 refine⟨fun k q hq=>?_,fun p hp=>?_,fun w' hw' =>h.tb w' fun k q hq=>?_⟩
 ·by_cases hk:k=b
  ·subst hk
   rw [kF]at hq
   cases hq
   exact⟨o',h1,h2⟩
  ·rw [oY _ _ hk]at hq;exact h k q hq
 ·obtain⟨c,T,fr,g1,g2⟩:=h.gl p hp
  by_cases hk:p.1=b
  ·subst hk
   obtain⟨d,hd⟩:=h3 _ g1
   refine⟨_,T,fr,by rw [kF,hd],?_⟩
   rw [List.toList_toArray,Hv ?_]
   ·exact g2
   ·have:=congrArg List.length g2
    rw [CE]at this
    omega
  ·exact⟨c,T,fr,by rw [oY _ _ hk];exact g1,g2⟩
 ·by_cases hk:k=b
  ·subst hk
   obtain⟨o1,g1,g2⟩:=hw' k o (kF _ _ _)
   exact⟨o1,g1,DD (h3 q hq) g2⟩
  ·exact hw' k q (by rw [oY _ _ hk];exact hq)
theorem eh(o:Obj)(hs:gR w S):fM om w S (w.alloc o) S∧gR (w.alloc o) S∧S w.heap.size=none:=by
 refine⟨⟨rfl,rfl,rfl,gp _,by simp,fun k hk _=>lC hk,SH.le_refl _,fun _ _ _=>rfl⟩,hs.same fun b q hb=>lC (hs.lt hb),?_⟩
 cases h:S w.heap.size with
 |none=>rfl
 |some q=>have:=hs.lt h;omega
theorem rQ(o:Obj)(hs:gR w S):fM om w S (w.alloc o) (S.set w.heap.size o)∧gR (w.alloc o) (S.set w.heap.size o):=by
 obtain⟨h1,h2,h3⟩:=eh o hs
 refine⟨⟨rfl,rfl,rfl,gp _,by simp,fun k hk _=>lC hk,sL fun q hq=>(by rw [h3]at hq;cases hq),fun k hk _=>oY _ _ (by omega)⟩,h2.set (Am w o) (q0 o) fun q hq=>by rw [h3]at hq;cases hq⟩
theorem vq(hs:gR w S):fM om w S w.drew S∧gR w.drew S:=⟨⟨rfl,rfl,rfl,Nat.le_succ _,gp _,fun _ _ _=>rfl,SH.le_refl _,fun _ _ _=>rfl⟩,hs.same fun _ _ _=>rfl⟩

def aw(l:Option Nat)(cap n:Nat):Value:=
 match l with
 |none=> .slice none 0 0
 |some b=> .slice (some ⟨b,0,none⟩) n cap
def wH(w:World)(T:TypeId)(sz:Nat)(l:Option Nat)(cap n:Nat)(cells:List Value):Prop:=
 match l with
 |none=>n=0∧cells=[]
 |some b=> ∃cur,w.heap[b]? =some (.cells cur T (0,0))∧n≤cap∧cap≤maxLen∧cur.size=cap*sz∧cur.toList.take (n*sz)=cells
def yq{α:Type}(m:Bool)(r:Rp α)(T:TypeId)(l:Option Nat)(cap:Nat)(xs:List α)(w:World)(S:SH):Prop:=
 ∃cells,wH w T r.sz l cap xs.length cells∧o5 r S cells xs∧ ∀b,l=some b→S b=if m then some (.cells cells.toArray T (0,0))else none
theorem wH.lt{sz b n:Nat}(h:wH w T sz (some b) cap n cells):b<w.heap.size:=by
 obtain⟨cur,h1,_⟩:=h
 exact(pY.1 h1).1
theorem wH.ext{sz n:Nat}(h:wH w T sz l cap n cells)(k: ∀b,l=some b→w'.heap[b]? =w.heap[b]?):wH w' T sz l cap n cells:=by
 cases l with
 |none=>exact h
 |some b=>
  obtain⟨cur,h1,h2⟩:=h
  exact⟨cur,by rw [k b rfl];exact h1,h2⟩
def ky{α:Type}(m:Bool)(r:Rp α)(T:TypeId)(l:Option Nat)(cap:Nat)(xs:List α):OE where
 fp:=fun k=>l=some k
 p:=yq m r T l cap xs
 here:=by
  intro w S h k hk
  subst hk
  obtain⟨cells,h1,_⟩:=h
  exact h1.lt
 kept:=by
  intro C w w' S S' h k hC
  obtain⟨cells,h1,h2,h3⟩:=h
  refine⟨cells,h1.ext fun b hb=>?_,pr k.keep h2,fun b hb=>?_⟩
  ·subst hb;exact k.heap b h1.lt (hC b rfl)
  ·subst hb;rw [k.old b h1.lt (hC b rfl)];exact h3 b rfl
abbrev cG{α:Type}(r:Rp α)(T:TypeId)(l:Option Nat)(cap:Nat)(xs:List α):OE:=ky false r T l cap xs
abbrev eF{α:Type}(r:Rp α)(T:TypeId)(l:Option Nat)(cap:Nat)(xs:List α):OE:=ky true r T l cap xs
def kE{α:Type}(xs ys:List α):Option (List α):=if xs.length+ys.length≤68719476736 then some (xs++ys)else none
variable{zs:List α}
theorem ND(h:kE xs ys=some zs):zs=xs++ys∧xs.length+ys.length≤68719476736:=by
 unfold kE at h
 split at h
 ·exact⟨by simpa using h.symm,by assumption⟩
 ·cases h
variable{news:List Value}
theorem wg{P:Program}{tx ty:TypeId}{i:TypeInfo}(ht:P.underlying t=some (.slice e))(hi:P.info? e=some i){g sLen sCap:Nat}{cur:Array Value}(hg:w.heap[g]? =some (.cells cur e (0,0))){x:Value}{n:Nat}(hs:Src P i.size tx x n news w)(hroom:sLen+n≤sCap)(hfit:sLen*i.size+news.length≤cur.size):
  (Builtin.append_ #[t,tx] ty #[.slice (some ⟨g,0,none⟩) sLen sCap,x]).run P w=
   .ok (.slice (some ⟨g,0,none⟩) (sLen+n) sCap) (w.setRow g (cur.toList.take (sLen*i.size)++news++cur.toList.drop (sLen*i.size+news.length)).toArray):=by
 have hst:=run_storeCells_at P g (sLen*i.size) e news 0 cur w hg (by simpa using hfit) hs.one
 simp only [Nat.add_zero]at hst
 rcases hs.kind with⟨e',hk⟩|hk<;>simp [Builtin.append_,hU ht,hU hk,sizeOf,typeInfo,hi,hs.len,hroom,hs.cells,Addr.add_lit,hst]
structure R8(l:Option Nat)(w w' :World):Prop where
 os:w'.os=w.os
 tape:w'.tape=w.tape
 output:w'.output=w.output
 drawn:w.drawn≤w'.drawn
 size:w.heap.size≤w'.heap.size
 heap: ∀k,k<w.heap.size→l≠some k→w'.heap[k]? =w.heap[k]?
variable{t' :TypeId}
theorem By{P:Program}{ty:TypeId}{sz:Nat}{agg:Bool}{n m:Nat}{x:Value}(ti:TI P T sz bytes agg z)(hz:Nat.beq z.length sz=true)(h0:Nat.blt 0 sz=true)(h128:Nat.ble bytes 2048=true)(ht:P.underlying t=some (.slice T))(h:wH w T sz l cap n cells)(hs:Src P sz t' x m news w)(hlen:n+m≤68719476736):
  ∃l' cap' w',(Builtin.append_ #[t,t'] ty #[aw l cap n,x]).run P w= .ok (aw l' cap' (n+m)) w' ∧wH w' T sz l' cap' (n+m) (cells++news)∧R8 l w w' ∧(∀b,l' =some b→l=some b∨w.heap.size≤b)∧(∀b,l=some b→l' ≠some b→w'.heap[b]? =w.heap[b]?):=by
 obtain⟨i,zv,hi,h1,h2,h3,h4⟩:=ti.get
 have h128' :=oq h128
 have h0' :0<sz:=by simpa [sr] using h0
 have hz2:z.length=sz:=m8 hz
 subst h1
 have hnl:=hs.newsLen
 have hbytes:(n+m)*i.bytes≤140737488355328:=kY (Nat.mul_le_mul hlen (by omega:i.bytes≤2048)) (by omega)
 by_cases hm:m=0
 ·subst hm
  have hn0:news=[]:=xm (by simpa using hnl)
  subst hn0
  refine⟨l,cap,w,?_,by simpa using h,⟨rfl,rfl,rfl,gp _,gp _,fun _ _ _=>rfl⟩,fun b hb=> .inl hb,fun b _ _=>rfl⟩
  cases l with
  |none=>
   obtain⟨rfl,_⟩:=h
   exact run_append_nothing w t t' ty T i ht hi none 0 0 (gp _) _ hs
  |some b=>
   obtain⟨cur,_,hle,_⟩:=h
   exact run_append_nothing w t t' ty T i ht hi (some ⟨b,0,none⟩) n cap hle _ hs
 have Ta: ∀old,old<n+m→Builtin.nextslicecap (n+m) old*i.bytes≤281474976710656:=fun old ho=>growslice_fits ho hbytes
 -- a new row
 have fresh: ∀(base:Option Addr) (olds:List Value),aw l cap n= .slice base n cap→olds=cells→cap<n+m→(Builtin.firstCells i.size n (.slice base n cap)).run P w.drew= .ok olds.toArray w.drew→cells.length=n*i.size→
   ∃l' cap' w',(Builtin.append_ #[t,t'] ty #[aw l cap n,x]).run P w= .ok (aw l' cap' (n+m)) w' ∧wH w' T i.size l' cap' (n+m) (cells++news)∧R8 l w w' ∧(∀b,l' =some b→l=some b∨w.heap.size≤b)∧(∀b,l=some b→l' ≠some b→w'.heap[b]? =w.heap[b]?):=by
  intro base olds hv he hg hf hcl
  subst he
  have hr:=run_append_grow_src (P:=P) w t t' ty T i zv ht hi h3 base n cap olds hf x m news hs hg (by omega) (Ta cap hg)
  have hge:=grownCap_ge w (n+m) cap T
  rw [←hv]at hr
  refine⟨some w.heap.size,grownCap w (n+m) cap T,_,hr,⟨_,Am w.drew _,hge,grownCap_le_maxLen _ _ _ _ (by simp only [maxLen];omega),?_,?_⟩,⟨rfl,rfl,rfl,Nat.le_succ _,by simp,fun k hk _=>?_⟩,fun b hb=> .inr (wk (mO hb)),fun b hb _=>?_⟩
  ·have:(Builtin.zeroCells zv.cells (grownCap w (n+m) cap T-(n+m))).size=(grownCap w (n+m) cap T-(n+m))*i.size:=by
    rw [size_zeroCells,h4];simp [hz2]
   simp only [Array.size_append,Dd,mq,hcl,hnl,this]
   rw [←sS,←sS]
   congr 1;omega
  ·have hl2:(olds++news).length=(n+m)*i.size:=by rw [mq,hcl,hnl,sS]
   rw [Array.toList_append,Hv (by simp only [List.toList_toArray];omega)]
   simp only [List.toList_toArray]
   exact wb (by omega)
  ·exact lC (w:=w.drew) hk
  ·cases l with
   |none=>cases hb
   |some b0=>
    have hb' :b0=b:=mO hb
    subst hb'
    exact lC (w:=w.drew) (wH.lt h)
 cases l with
 |none=>
  obtain⟨rfl,rfl⟩:=h
  have:=run_append_grow_src (P:=P) w t t' ty T i zv ht hi h3 none 0 0 [] (run_firstCells_none w.drew i.size 0 0 0) x m news hs (by omega) (by omega) (Ta 0 (by omega))
  have hge:=grownCap_ge w (0+m) 0 T
  refine⟨some w.heap.size,grownCap w (0+m) 0 T,_,this,⟨_,Am w.drew _,hge,grownCap_le_maxLen _ _ _ _ (by simp only [maxLen];omega),?_,?_⟩,⟨rfl,rfl,rfl,Nat.le_succ _,by simp,fun k hk _=>?_⟩,fun b hb=> .inr (wk (mO hb)),fun b hb=>(by cases hb)⟩
  ·have:(Builtin.zeroCells zv.cells (grownCap w (0+m) 0 T-(0+m))).size=(grownCap w (0+m) 0 T-(0+m))*i.size:=by
    rw [size_zeroCells,h4];simp [hz2]
   simp only [Array.size_append,Dd,nF,hnl,this]
   rw [←sS]
   congr 1;omega
  ·rw [Array.toList_append,Hv (by simp [hnl])]
   simp only [nF,qx]
   exact wb (by omega)
  ·exact lC (w:=w.drew) hk
 |some b=>
  obtain⟨cur,hb,hle,hmax,hcs,hct⟩:=h
  have hcl:cells.length=n*i.size:=by
   rw [←hct,CE,FK,hcs]
   exact xi (xl _ hle)
  by_cases hroom:n+m≤cap
  ·have hfit:n*i.size+news.length≤cur.size:=by rw [hnl,hcs,←sS];exact xl _ hroom
   have hr:=wg (t:=t) (tx:=t') (ty:=ty) ht hi hb hs hroom hfit
   refine⟨some b,cap,_,hr,⟨_,setRow_heap w b cur _ T _ hb,hroom,hmax,?_,?_⟩,⟨rfl,rfl,rfl,gp _,by simp [World.setRow],fun k hk hkb=>setRow_other w b k _ (fun e=>hkb (by rw [e]))⟩,fun b' hb' => .inl hb',fun b' hb' hne=>absurd hb' hne⟩
   ·simp only [Dd,mq,CE,zK,FK]
    omega
   ·rw [hct,sS,←hnl,←hcl,show cells.length+news.length=(cells++news).length from by simp]
    exact List.take_left
  ·refine fresh (some ⟨b,0,none⟩) cells rfl rfl (by omega) (run_firstCells_some w.drew i.size n ⟨b,0,none⟩ n cap cells hcl fun j v hv=>?_) hcl
   have hj:j<cells.length:=(ox.1 hv).1
   have hcell:w.cell? ⟨b,j,none⟩=cur[j]? :=vV hb j
   rw [gA]
   show w.cell? ⟨b,0+j,none⟩=_
   rw [qx,hcell]
   rw [←hct,yN (by omega)]at hv
   simpa using hv
theorem ru{P:Program}{r:Rp α}{e' :TypeId}(ht:P.underlying t' =some (.slice e'))(hs:gR w S)(hv:(tD (fz r) ys).p S v): ∃news,Src P r.sz t' v ys.length news w∧o5 r S news ys:=by
 obtain⟨ad,c2,rfl,hcap,hmax,hsl⟩:=lP.1 hv
 rcases hsl with rfl|⟨b,off,c,U,fr,e1,e2,e3⟩
 ·refine⟨[],?_,rfl⟩
  cases ad with
  |none=>exact .ofNil w ht c2
  |some a=>exact .ofSlice w ht a 0 c2 [] (by simp) (fun j u hu=>by simp at hu) (fun u hu=>by cases hu)
 ·subst e1
  obtain⟨c',h4,h5⟩:=hs.part e2 (j9 e3)
  refine⟨_,.ofSlice w ht ⟨b,off,none⟩ ys.length c2 _ (j9 e3) (fun j u hu=>?_) (xH e3),e3⟩
  rw [gA,vV h4]
  rw [←h5]at hu
  have hj:j<ys.length*r.sz:=by
   have:=(ox.1 hu).1
   simp at this;omega
  rw [yN hj,ul]at hu
  simpa using hu
def n9(s:im):List Int:=s.map fun b=>(b.toNat:Int)
theorem DA{S:SH}: ∀s:im,o5 (rI .u8) S (s.map fun b=>Value.int .u8 b.toNat) (n9 s)
 |[]=>rfl
 |b::s=>⟨[.int .u8 b.toNat],_,rfl,rfl,DA s⟩
theorem HF{P:Program}{s:im}(ht:P.underlying t' =some .string)(hv:(tD rS s).p S v): ∃news,Src P (rI .u8).sz t' v (n9 s).length news w∧o5 (rI .u8) S news (n9 s):=by
 have e:=qI.1 hv
 subst e
 refine⟨_,?_,DA s⟩
 have:=Src.ofString (P:=P) w ht ⟨s.toArray⟩
 have e1:(ByteArray.mk s.toArray).size=(n9 s).length:=by simp [ByteArray.size,n9]
 rw [e1]at this
 simpa [byteCells,rI] using this
variable{mm:Bool}
theorem uE{P:Program}{r:Rp α}{ty:TypeId}{sz:Nat}{agg:Bool}{base:Nat}{B:Nat→Prop}(ti:TI P T sz bytes agg z)(hsz:r.sz=sz)(hz:Nat.beq z.length sz=true)(h0:Nat.blt 0 sz=true)(h128:Nat.ble bytes 2048=true)(ht:P.underlying t=some (.slice T))(hs:gR w S)(h:(ky mm r T l cap xs).holds base B w S)(hb:base≤w.heap.size)(hsrc:Src P r.sz t' v ys.length news w)(hrc:o5 r S news ys)(hz' :kE xs ys=some zs):
  ∃l' cap' w' S',(Builtin.append_ #[t,t'] ty #[aw l cap xs.length,v]).run P w= .ok (aw l' cap' zs.length) w' ∧fM (fun k=>l=some k) w S w' S' ∧gR w' S' ∧(ky mm r T l' cap' zs).holds base B w' S' ∧(∀b,l' =some b→l=some b∨w.heap.size≤b):=by
 subst hsz
 obtain⟨rfl,hlen⟩:=ND hz'
 obtain⟨⟨cells,h1,h2,h3⟩,hbase⟩:=h
 obtain⟨l',cap',w',hr,hraw,hg,hnew,hold⟩:=By (ty:=ty) ti hz h0 h128 ht h1 hsrc hlen
 have hrc' :o5 r S (cells++news) (xs++ys):=qT h2 hrc
 -- what stood settled stands
 have hsat0: ∀k o,S k=some o→ ∃o',w'.heap[k]? =some o' ∧CC o o' :=fun k o hk=>by
  have hlt:=hs.lt hk
  by_cases hkl:l=some k
  ·obtain⟨o',e1,e2⟩:=hs k o hk
   by_cases hkl' :l' =some k
   ·subst hkl'
    subst hkl
    have h3' :=h3 k rfl
    cases mm with
    |false=>rw [h3']at hk;cases hk
    |true=>
     rw [h3']at hk
     cases hk
     obtain⟨cur',g1,g2,g3,g4,g5⟩:=hraw
     refine⟨_,g1,?_⟩;refine⟨news++cur'.toList.drop ((xs.length+ys.length)*r.sz),?_⟩
     congr 1
     apply Array.ext'
     rw [←rR,←g5,sY]
   ·rw [hold k hkl hkl'];exact hs k o hk
  ·rw [hg.heap k hlt hkl];exact hs k o hk
 have hsat:gR w' S:=⟨hsat0,hs.gl,hs.tb⟩
 have hSn: ∀b,l' =some b→l≠some b→S b=none:=fun b hb' hne=>by
  cases hq:S b with
  |none=>rfl
  |some q=>
   have:=hs.lt hq
   rcases hnew b hb' with h|h
   ·exact absurd h hne
   ·omega
 have hbase' : ∀k,l' =some k→base≤k∨B k:=fun k hk=>by
  rcases hnew k hk with h|h
  ·exact hbase k h
  ·exact .inl (by omega)
 have hz2:(xs++ys).length=xs.length+ys.length:=mq
 cases mm with
 |false=>
  refine⟨l',cap',w',S,by rw [hz2];exact hr,⟨hg.os,hg.tape,hg.output,hg.drawn,hg.size,fun k hk hkb=>hg.heap k hk hkb,SH.le_refl _,fun _ _ _=>rfl⟩,hsat,⟨⟨cells++news,by rw [hz2];exact hraw,hrc',fun b hb' =>?_⟩,hbase'⟩,hnew⟩
  by_cases hlb:l=some b
  ·exact h3 b hlb
  ·exact hSn b hb' hlb
 |true=>
  cases l' with
  |none=>
   refine⟨none,cap',w',S,by rw [hz2];exact hr,⟨hg.os,hg.tape,hg.output,hg.drawn,hg.size,fun k hk hkb=>hg.heap k hk hkb,SH.le_refl _,fun _ _ _=>rfl⟩,hsat,⟨⟨cells++news,by rw [hz2];exact hraw,hrc',fun b hb' =>(by cases hb')⟩,hbase'⟩,hnew⟩
  |some g=>
   have hq3: ∀q,S g=some q→CC q (.cells (cells++news).toArray T (0,0)):=fun q hq=>by
    by_cases hlb:l=some g
    ·have h4:S g=some (.cells cells.toArray T (0,0)):=h3 g hlb
     rw [h4]at hq
     cases hq
     exact⟨news,by simp⟩
    ·rw [hSn g rfl hlb]at hq;cases hq
   have hle:SH.le S (S.set g (.cells (cells++news).toArray T (0,0))):=sL hq3
   obtain⟨cur',g1,g2,g3,g4,g5⟩:=hraw
   refine⟨some g,cap',w',S.set g (.cells (cells++news).toArray T (0,0)),by rw [hz2];exact hr,⟨hg.os,hg.tape,hg.output,hg.drawn,hg.size,fun k hk hkb=>hg.heap k hk hkb,hle,fun k hk hkb=>oY _ _ ?_⟩,hsat.set g1 ?_ hq3,⟨⟨cells++news,by rw [hz2];exact⟨cur',g1,g2,g3,g4,g5⟩,pr hle hrc',fun b hb' =>?_⟩,hbase'⟩,hnew⟩
   ·rintro rfl
    rcases hnew k rfl with h|h
    ·exact hkb h
    ·omega
   ·refine⟨cur'.toList.drop ((xs.length+ys.length)*r.sz),?_⟩
    congr 1
    apply Array.ext'
    rw [←g5,sY]
   ·have hb2:g=b:=mO hb'
    subst hb2
    exact kF _ _ _

theorem IJ{e f:OE}(h:e.apart f):f.apart e:=fun b hb he=>h b he hb
theorem dp.swap{base:Nat}{B:Nat→Prop}{e f:OE}(h:dp base B w S (e::f::O)):dp base B w S (f::e::O):=by
 obtain⟨h1,h2,h3,h4,h5⟩:=h
 refine⟨h3,?_,h1,?_,h5⟩
 ·intro g hg
  rcases iC.1 hg with rfl|hg
  ·exact IJ (h2 _ (lV ..))
  ·exact h4 g hg
 ·intro g hg
  exact h2 g (kG _ hg)
theorem yB{base:Nat}{B:Nat→Prop}{e:OE}{O' :List OE}(h:dp base B w S (e::O))(k:dp base B w S O→dp base B w S O')(hm: ∀f∈O',f∈O):dp base B w S (e::O'):=
 ⟨h.1,fun f hf=>h.2.1 f (hm f hf),k h.2.2⟩
theorem o0{base:Nat}{B:Nat→Prop}{a b c:OE}(h:dp base B w S (a::b::c::O)):dp base B w S (c::a::b::O):=
 (yB h dp.swap (fun f hf=>by simp only [iC]at hf ⊢;rcases hf with h|h|h<;>simp [h])).swap
theorem rl{base:Nat}{B:Nat→Prop}{a b c d:OE}(h:dp base B w S (a::b::c::d::O)):dp base B w S (d::a::b::c::O):=
 (yB h o0 (fun f hf=>by simp only [iC]at hf ⊢;rcases hf with h|h|h|h<;>simp [h])).swap
theorem tR{base:Nat}{B:Nat→Prop}{a b c d e:OE}(h:dp base B w S (a::b::c::d::e::O)):dp base B w S (e::a::b::c::d::O):=
 (yB h rl (fun f hf=>by simp only [iC]at hf ⊢;rcases hf with h|h|h|h|h<;>simp [h])).swap

section
variable{E:En}
theorem St.own_map{O' :List OE}(h:St E O G a w S)(k:dp E.base E.B w S O→dp E.base E.B w S O'):St E O' G a w S:=⟨h.ext,h.sat,k h.own,h.facts⟩
theorem St.base_le(h:St E O G a w S):E.base≤w.heap.size:=h.ext.size
theorem St.drop{e:OE}(h:St E (e::O) G a w S):St E O G a w S:=h.own_map fun h=>h.2.2
theorem St.fresh(mm:Bool)(r:Rp α)(T:TypeId)(h:St E O G a w S):St E (ky mm r T none 0 []::O) G a w S:=
 h.own_map fun h=>by refine⟨⟨⟨[],⟨rfl,rfl⟩,rfl,fun b hb=>(by cases hb)⟩,fun k hk=>?_⟩,fun f _ b hb=>?_,h⟩<;>(first|cases hk|cases hb)
theorem wR{e:OE}{b:Nat}{o:Obj}(h:St E (e::O) G a w S)(hb:e.fp b)(ho:w.heap[b]? =some o')(hoo:CC o o')(hn:S b=none):St E O G a w (S.set b o)∧SH.le S (S.set b o)∧fM (fun k=>k=b) w S w (S.set b o)∧gR w (S.set b o):=by
 have hbase:=h.own.1.2 b hb
 have hle:SH.le S (S.set b o):=sL fun q hq=>(by rw [hn]at hq;cases hq)
 have hsat:gR w (S.set b o):=h.sat.set ho hoo fun q hq=>by rw [hn]at hq;cases hq
 have hext:fM (fun k=>k=b) w S w (S.set b o):=⟨rfl,rfl,rfl,gp _,gp _,fun _ _ _=>rfl,hle,fun k _ hk=>oY _ _ hk⟩
 refine⟨⟨h.ext.step hext fun c hc=>by subst hc;exact hbase,hsat,h.own.2.2.ext hext fun f hf c hc hm=>?_,h.facts.mono hle⟩,hle,hext,hsat⟩
 subst hm
 exact h.own.2.1 f hf c hb hc
def tO{α:Type}(r:Rp α)(l:Option Nat)(cap:Nat)(xs:List α):Ty where
 p:=fun S v=>v=aw l cap xs.length∧(tD (fz r) xs).p S v
 mono:=fun h ⟨h1,h2⟩=>⟨h1,Ty.mono _ h h2⟩
theorem xz{N:Fr}{G:kb}{r:Rp α}(h:aE N G x (tO r l cap xs)):aE N G x (tV (aw l cap xs.length)):=fun S a hf=>(h S a hf).1
theorem pC{N:Fr}{G:kb}{r:Rp α}(h:aE N G x (tO r l cap xs)):aE N G x (tD (fz r) xs):=fun S a hf=>(h S a hf).2
theorem ld{r:Rp α}{w:World}{S:SH}(h:yq true r T l cap xs w S):(tD (fz r) xs).p S (aw l cap xs.length):=by
 obtain⟨cells,h1,h2,h3⟩:=h
 cases l with
 |none=>
  have hx:xs=[]:=xm h1.1
  subst hx
  exact EG
 |some b=>
  obtain⟨cur,g1,g2,g3,g4,g5⟩:=h1
  refine lP.2 ⟨_,cap,rfl,g2,g3,.inr ⟨b,0,cells.toArray,T,(0,0),rfl,h3 b rfl,?_⟩⟩
  have:=j9 h2
  rw [uc,wb (by simp [this])]
  exact h2
theorem St.freeze{r:Rp α}(h:St E (cG r T l cap xs::O) G a w S):
  ∃S',St E (eF r T l cap xs::O) G a w S' :=by
 obtain⟨⟨cells,h1,h2,h3⟩,hbase⟩:=h.own.1
 cases l with
 |none=>exact⟨S,h.ext,h.sat,⟨⟨⟨cells,h1,h2,fun b hb=>(by cases hb)⟩,hbase⟩,h.own.2⟩,h.facts⟩
 |some b=>
  obtain⟨cur,g1,g2,g3,g4,g5⟩:=h1
  have hoo:CC (.cells cells.toArray T (0,0)) (.cells cur T (0,0)):=by
   refine⟨cur.toList.drop (xs.length*r.sz),?_⟩
   congr 1
   apply Array.ext'
   rw [←g5,sY]
  obtain⟨h8,hle,_,_⟩:=wR h rfl g1 hoo (h3 b rfl)
  refine⟨_,h8.ext,h8.sat,⟨⟨⟨cells,⟨cur,g1,g2,g3,g4,g5⟩,pr hle h2,fun b' hb' =>?_⟩,hbase⟩,h.own.2.1,h8.own⟩,h8.facts⟩
  have hb2:b=b' :=mO hb'
  subst hb2
  exact kF _ _ _
theorem St.settle{r:Rp α}(h:St E (ky mm r T l cap xs::O) G a w S):
  ∃S',St E O G a w S' ∧(tD (fz r) xs).p S' (aw l cap xs.length):=by
 cases mm with
 |true=>exact⟨S,h.drop,ld h.own.1.1⟩
 |false=>
  obtain⟨S',h1⟩:=h.freeze
  exact⟨S',h1.drop,ld h1.own.1.1⟩
end

section
variable{E:En}{rest:List Oper}{e:Exit}
theorem Iv{N:Fr}{t:Ty}(h:co N S a G)(hk:t.p S (a.tmps.getD k undef)):co N S a ((k,t)::G):=
 ⟨h.size,h.defers,fun j u hj=>by
  unfold look at hj
  by_cases hb:Nat.beq k j=true
  ·rw [hb]at hj
   have:=m8 hb
   subst this
   rw [←show t=u from by simpa using hj];exact hk
  ·rw [yM]at hb
   rw [hb]at hj
   exact h.at_ j u hj⟩
theorem St.cons{t:Ty}(h:St E O G a w S)(hk:t.p S (a.tmps.getD k undef)):St E O ((k,t)::G) a w S:=⟨h.ext,h.sat,h.own,Iv h.facts hk⟩
theorem St.tipAt{r:Rp α}{n:Nat}(h:St E (eF r T l cap xs::O) G a w S)(hk:look G k=some (tV (aw l cap n)))(hn:n=xs.length):
  St E (eF r T l cap xs::O) ((k,tO r l cap xs)::G) a w S:=by
 subst hn
 have hv:a.tmps.getD k undef=aw l cap xs.length:=h.facts.at_ k _ hk
 exact h.cons ⟨hv,by rw [hv];exact ld h.own.1.1⟩
theorem cm(mm:Bool)(r:Rp α)(T:TypeId)(h:RG E ops Q rest (ky mm r T none 0 []::O) G):RG E ops Q rest O G:=fun a w S st=>h a w S (st.fresh mm r T)
theorem yw{f:OE}(h:RG E ops Q rest O G):RG E ops Q rest (f::O) G:=fun a w S st=>h a w S st.drop
theorem CG.drop{f:OE}(h:CG E Q c O G):CG E Q c (f::O) G:=fun a w S st=>h a w S st.drop
theorem ba{f:OE}(h:AT E Q e O G):AT E Q e (f::O) G:=fun a w S st=>h a w S st.drop
theorem bD{x:OE}(h:RG E ops Q rest (y::x::O) G):RG E ops Q rest (x::y::O) G:=fun a w S st=>h a w S (st.own_map dp.swap)
theorem aX{x:OE}(h:AT E Q e (y::x::O) G):AT E Q e (x::y::O) G:=fun a w S st=>h a w S (st.own_map dp.swap)
theorem jg{x z:OE}(h:RG E ops Q rest (z::x::y::O) G):RG E ops Q rest (x::y::z::O) G:=fun a w S st=>h a w S (st.own_map o0)
theorem LM{x z:OE}(h:CG E Q c (z::x::y::O) G):CG E Q c (x::y::z::O) G:=fun a w S st=>h a w S (st.own_map o0)
theorem aR{x z:OE}(h:AT E Q e (z::x::y::O) G):AT E Q e (x::y::z::O) G:=fun a w S st=>h a w S (st.own_map o0)
theorem dZ{x z:OE}(h:RG E ops Q rest (u::x::y::z::O) G):RG E ops Q rest (x::y::z::u::O) G:=fun a w S st=>h a w S (st.own_map rl)
theorem bv{x z:OE}(h:AT E Q e (u::x::y::z::O) G):AT E Q e (x::y::z::u::O) G:=fun a w S st=>h a w S (st.own_map rl)
theorem vY{x z v:OE}(h:RG E ops Q rest (v::x::y::z::u::O) G):RG E ops Q rest (x::y::z::u::v::O) G:=fun a w S st=>h a w S (st.own_map tR)
theorem gZ{x z v:OE}(h:AT E Q e (v::x::y::z::u::O) G):AT E Q e (x::y::z::u::v::O) G:=fun a w S st=>h a w S (st.own_map tR)
theorem mK{f:OE}(h:LG E Q c O G):LG E Q c (f::O) G:=fun a w S st=>h a w S st.drop
theorem fc{x:OE}(h:LG E Q c (y::x::O) G):LG E Q c (x::y::O) G:=fun a w S st=>h a w S (st.own_map dp.swap)
theorem jI{x z:OE}(h:LG E Q c (z::x::y::O) G):LG E Q c (x::y::z::O) G:=fun a w S st=>h a w S (st.own_map o0)
theorem d3{x z:OE}(h:LG E Q c (u::x::y::z::O) G):LG E Q c (x::y::z::u::O) G:=fun a w S st=>h a w S (st.own_map rl)
theorem vZ{x z v:OE}(h:LG E Q c (v::x::y::z::u::O) G):LG E Q c (x::y::z::u::v::O) G:=fun a w S st=>h a w S (st.own_map tR)
theorem oZ{r:Rp α}(h:RG E ops Q rest (eF r T l cap xs::O) G):RG E ops Q rest (cG r T l cap xs::O) G:=fun a w _ st=>let⟨S',st'⟩:=st.freeze;h a w S' st'
theorem oc{r:Rp α}{n:Nat}(k:Nat)(hk:look G k=some (tV (aw l cap n)))(h:RG E ops Q rest (eF r T l cap xs::O) ((k,tO r l cap xs)::G))(hn:n=xs.length:=by rfl):RG E ops Q rest (eF r T l cap xs::O) G:=fun a w S st=>h a w S (st.tipAt hk hn)
theorem LN{r:Rp α}(h:CG E Q c (eF r T l cap xs::O) G):CG E Q c (cG r T l cap xs::O) G:=fun a w _ st=>let⟨S',st'⟩:=st.freeze;h a w S' st'
theorem Hp{r:Rp α}{n:Nat}(k:Nat)(hk:look G k=some (tV (aw l cap n)))(h:CG E Q c (eF r T l cap xs::O) ((k,tO r l cap xs)::G))(hn:n=xs.length:=by rfl):CG E Q c (eF r T l cap xs::O) G:=fun a w S st=>h a w S (st.tipAt hk hn)
theorem gG{r:Rp α}(h:AT E Q e (eF r T l cap xs::O) G):AT E Q e (cG r T l cap xs::O) G:=fun a w _ st=>let⟨S',st'⟩:=st.freeze;h a w S' st'
theorem gh{r:Rp α}{n:Nat}(k:Nat)(hk:look G k=some (tV (aw l cap n)))(h:AT E Q e (eF r T l cap xs::O) ((k,tO r l cap xs)::G))(hn:n=xs.length:=by rfl):AT E Q e (eF r T l cap xs::O) G:=fun a w S st=>h a w S (st.tipAt hk hn)
theorem zB{r:Rp α}(h:LG E Q c (eF r T l cap xs::O) G):LG E Q c (cG r T l cap xs::O) G:=fun a w _ st=>let⟨S',st'⟩:=st.freeze;h a w S' st'
theorem yC{r:Rp α}{n:Nat}(k:Nat)(hk:look G k=some (tV (aw l cap n)))(h:LG E Q c (eF r T l cap xs::O) ((k,tO r l cap xs)::G))(hn:n=xs.length:=by rfl):LG E Q c (eF r T l cap xs::O) G:=fun a w S st=>h a w S (st.tipAt hk hn)
theorem aV{r:Rp α}(hk:look G k=some (tD (fz r) xs))(h:xs.length≤maxLen→CG E Q c O G):CG E Q c O G:=fun a w S st=>by
 obtain⟨_,_,_,h1,h2,_⟩:=lP.1 (st.facts.at_ k _ hk)
 exact h (kY h1 h2) a w S st

section
variable{ty:TypeId}
theorem St.append{r:Rp α}{ty:TypeId}{sz:Nat}{agg:Bool}(ti:TI E.P T sz bytes agg z)(hsz:r.sz=sz)(hz:Nat.beq z.length sz=true)(h0:Nat.blt 0 sz=true)(h128:Nat.ble bytes 2048=true)(ht:E.P.underlying t=some (.slice T))(st:St E (ky mm r T l cap xs::O) G a w S)(hsrc:Src E.P r.sz t' v ys.length news w)(hrc:o5 r S news ys)(happ:kE xs ys=some zs):
  ∃l' cap' w' S',(Builtin.append_ #[t,t'] ty #[aw l cap xs.length,v]).run E.P w= .ok (aw l' cap' zs.length) w' ∧St E (ky mm r T l' cap' zs::O) G a w' S' :=by
 obtain⟨l',cap',w',S',hr,hext,hsat,hh,hnew⟩:=uE (ty:=ty) ti hsz hz h0 h128 ht st.sat st.own.1 st.base_le hsrc hrc happ
 refine⟨l',cap',w',S',hr,st.ext.step hext fun b hb=>st.own.1.2 b hb,hsat,⟨hh,fun f hf b hb hfb=>?_,st.own.2.2.ext hext fun f hf b hb hbl=>st.own.2.1 f hf b hbl hb⟩,st.facts.mono hext.keep⟩
 rcases hnew b hb with h|h
 ·exact st.own.2.1 f hf b h hfb
 ·have:=f.here (dp.mem st.own.2.2 f hf).1 b hfb
  omega
theorem St.put{d:Nat}{t:Ty}(h:St E O G a w S)(hd:Nat.blt d E.N.n=true)(hv:t.p S v):St E O ((d,t)::G) (a.put (some d) v) w S:=⟨h.ext,h.sat,h.own,h.facts.put hd hv⟩
theorem tQ{r:Rp α}{sz:Nat}{agg:Bool}{n:Nat}{y:Operand}{u:Nat→Option Nat→Ty}(ti:TI E.P T sz bytes agg z)(hsz:r.sz=sz)(hz:Nat.beq z.length sz=true)(h0:Nat.blt 0 sz=true)(h128:Nat.ble bytes 2048=true)(ht:E.P.underlying t=some (.slice T))(hd:Nat.blt d E.N.n=true)(hx:aE E.N G x (tV (aw l cap n)))(hy: ∀a w S,St E (ky mm r T l cap xs::O) G a w S→ ∃news,Src E.P r.sz t' (a.eval y) ys.length news w∧o5 r S news ys)(happ:kE xs ys=some zs)(hu: ∀l' cap' w0 S,(ky mm r T l' cap' zs).p w0 S→(u cap' l').p S (aw l' cap' zs.length))(k: ∀l' cap',RG E ops Q rest (ky mm r T l' cap' zs::O) ((d,u cap' l')::G))(hn:n=xs.length):
  RG E ops Q (⟨some d,.call ⟨.builtin .append,#[x,y],#[t,t']⟩,ty,pos,after,none⟩::rest) (ky mm r T l cap xs::O) G:= .of rfl fun a w S st=>by
 subst hn
 have h1:a.eval x=aw l cap xs.length:=hx S a st.facts
 obtain⟨news,h2,h3⟩:=hy a w S st
 obtain⟨l',cap',w',S',hr,st'⟩:=st.append (ty:=ty) ti hsz hz h0 h128 ht h2 h3 happ
 have hrun:(execOp a.eval ⟨some d,.call ⟨.builtin .append,#[x,y],#[t,t']⟩,ty,pos,after,none⟩).run E.P w= .ok (.value (aw l' cap' zs.length)) w' :=by
  simp [execOp,resolve,invoke,builtin,h1,hr]
 refine⟨fun c h=>(by cases h),?_⟩
 rw [hrun]
 exact k l' cap' _ _ S' (st'.put hd (hu l' cap' w' S' st'.own.1.1))
theorem ep{r:Rp α}{sz:Nat}{agg:Bool}{n:Nat}{y:Operand}(ti:TI E.P T sz bytes agg z)(hsz:r.sz=sz)(hz:Nat.beq z.length sz=true)(h0:Nat.blt 0 sz=true)(h128:Nat.ble bytes 2048=true)(ht:E.P.underlying t=some (.slice T))(ht' :t' =t)(hd:Nat.blt d E.N.n=true)(hx:aE E.N G x (tV (aw l cap n)))(hy:aE E.N G y (tD (fz r) ys))(happ:kE xs ys=some zs)(k: ∀l' cap',RG E ops Q rest (cG r T l' cap' zs::O) ((d,tV (aw l' cap' zs.length))::G))(hn:n=xs.length:=by rfl):
  RG E ops Q (⟨some d,.call ⟨.builtin .append,#[x,y],#[t,t']⟩,ty,pos,after,none⟩::rest) (cG r T l cap xs::O) G:=by
 subst ht'
 exact tQ (u:=fun cap' l' =>tV (aw l' cap' zs.length)) ti hsz hz h0 h128 ht hd hx (fun a w S st=>ru ht st.sat (hy S a st.facts)) happ (fun _ _ _ _ _=>rfl) k hn
theorem j5{r:Rp α}{sz:Nat}{agg:Bool}{y:Operand}(ti:TI E.P T sz bytes agg z)(hsz:r.sz=sz)(hz:Nat.beq z.length sz=true)(h0:Nat.blt 0 sz=true)(h128:Nat.ble bytes 2048=true)(ht:E.P.underlying t=some (.slice T))(ht' :t' =t)(hd:Nat.blt d E.N.n=true)(hx:aE E.N G x (tO r l cap xs))(hy:aE E.N G y (tD (fz r) ys))(happ:kE xs ys=some zs)(k: ∀l' cap',RG E ops Q rest (eF r T l' cap' zs::O) ((d,tO r l' cap' zs)::G)):
  RG E ops Q (⟨some d,.call ⟨.builtin .append,#[x,y],#[t,t']⟩,ty,pos,after,none⟩::rest) (eF r T l cap xs::O) G:=by
 subst ht'
 exact tQ (u:=fun cap' l' =>tO r l' cap' zs) ti hsz hz h0 h128 ht hd (xz hx) (fun a w S st=>ru ht st.sat (hy S a st.facts)) happ (fun _ _ _ _ h=>⟨rfl,ld h⟩) k rfl
theorem Hk{agg:Bool}{xs zs:List Int}{s:im}{y:Operand}(ti:TI E.P T 1 bytes agg z)(hz:Nat.beq z.length 1=true)(h128:Nat.ble bytes 2048=true)(ht:E.P.underlying t=some (.slice T))(ht' :E.P.underlying t' =some .string)(hd:Nat.blt d E.N.n=true)(hx:aE E.N G x (tO (rI .u8) l cap xs))(hy:aE E.N G y (tD rS s))(happ:kE xs (n9 s)=some zs)(k: ∀l' cap',RG E ops Q rest (eF (rI .u8) T l' cap' zs::O) ((d,tO (rI .u8) l' cap' zs)::G)):
  RG E ops Q (⟨some d,.call ⟨.builtin .append,#[x,y],#[t,t']⟩,ty,pos,after,none⟩::rest) (eF (rI .u8) T l cap xs::O) G:=
 tQ (r:=rI .u8) (u:=fun cap' l' =>tO (rI .u8) l' cap' zs) ti rfl hz rfl h128 ht hd (xz hx) (fun a w S st=>HF ht' (hy S a st.facts)) happ (fun _ _ _ _ h=>⟨rfl,ld h⟩) k rfl
end
end

theorem xZ(off:Nat): ∀(cs:List Value) (k:Nat) (pre mid post:List Value),mid.length=cs.length→pre.length=off+k→
  (cs.zipIdx k).foldl (fun(a:Array Value) x=>a.setIfInBounds (off+x.2) x.1) (pre++mid++post).toArray=(pre++cs++post).toArray
 |[],k,pre,mid,post,hm,_=>by
  have:mid=[]:=xm hm
  subst this;simp
 |c::cs,k,pre,mid,post,hm,hp=>by
  cases mid with
  |nil=>simp at hm
  |cons m mid=>
   simp only [List.zipIdx_cons,List.foldl_cons]
   have h1:(pre++(m::mid)++post).toArray.setIfInBounds (off+k) c=((pre++[c])++mid++post).toArray:=by
    rw [←hp]
    simp
   rw [h1,xZ off cs (k+1) (pre++[c]) mid post (by simpa using hm) (by simp;omega)]
   simp
theorem xA(v:Value)(off:Nat)(pre mid post:List Value)(hm:mid.length=v.cells.size)(hp:pre.length=off):
  v.cells.zipIdx.foldl (fun cs (x:Value×Nat)=>cs.setIfInBounds (off+x.2) x.1) (pre++mid++post).toArray=(pre++v.cells.toList++post).toArray:=by
 have:=xZ off v.cells.toList 0 pre mid post (by simpa using hm) (by simpa using hp)
 rw [←this,←Array.foldl_toList]
 simp [Array.toList_zipIdx]
theorem sA{r:Rp α}{x:α}(h:r.rc S cs x):(r.val cs).cells=cs.toArray:=by
 unfold Rp.val
 cases ha:r.agg with
 |true=>simp [Value.cells]
 |false=>
  have hl:=r.len h
  rw [r.sc ha]at hl
  match cs,hl with
  |[c],_=>
   have:=r.one h c (by simp)
   cases c<;>simp_all [Value.cells,Value.oneCell']
def Ae:Nat→List Value→List (Nat×Value)
 |_,[]=>[]
 |k,v::vs=>(k,v)::Ae (k+1) vs
theorem B8{α:Type}{r:Rp α}{S:SH}: ∀(ys:List α) (vs:List Value) (k:Nat) (pre zs:List Value),tP S (ys.map (tD r)) vs→pre.length=k*r.sz→zs.length=ys.length*r.sz→
  ∃cs,o5 r S cs ys∧Instr.fill (fun i=>some (i*r.sz,r.sz)) (pre++zs).toArray (Ae k vs)=some (pre++cs).toArray
 |[],[],k,pre,zs,_,_,hz=>by
  have:zs=[]:=xm (by simpa using hz)
  subst this
  exact⟨[],rfl,by simp [Ae,Instr.fill]⟩
 |y::ys,v::vs,k,pre,zs,⟨⟨c,e,hc⟩,h2⟩,hp,hz=>by
  have hl:=r.len hc
  have hz' :r.sz≤zs.length:=by rw [hz,nG,sS];omega
  have e1:zs=zs.take r.sz++zs.drop r.sz:=(sY _ _).symm
  have hcells:v.cells=c.toArray:=by rw [e];exact sA hc
  obtain⟨cs,h3,h4⟩:=B8 ys vs (k+1) (pre++c) (zs.drop r.sz) h2 (by rw [mq,hp,hl,sS];omega) (by rw [zK,hz,nG,sS];omega)
  refine⟨c++cs,⟨c,cs,rfl,hc,h3⟩,?_⟩
  have hs:v.cells.size=r.sz:=by rw [hcells];simpa using hl
  have hcond: ¬((v.cells.size≠r.sz)∨(k*r.sz+v.cells.size>(pre++zs).toArray.size)):=by
   simp [hs];omega
  have h5:=xA v (k*r.sz) pre (zs.take r.sz) (zs.drop r.sz) (by simp [hs];omega) hp
  rw [rR,←e1]at h5
  simp only [Ae,Instr.fill]
  rw [dd (by simpa using hcond)]
  rw [h5,hcells]
  simpa using h4
def wG:Nat→List Operand→List (Nat×Operand)
 |_,[]=>[]
 |k,v::vs=>(k,v)::wG (k+1) vs
theorem zl(ρ:Operand→Value): ∀(k:Nat) (xs:List Operand),(wG k xs).map (fun x=>(x.1,ρ x.2))=Ae k (xs.map ρ)
 |_,[]=>rfl
 |k,x::xs=>by simp [wG,Ae,zl ρ (k+1) xs]

section
variable{E:En}{ty:TypeId}
theorem uD{P:Program}{r:Rp α}{xs:List Operand}{ρ:Operand→Value}{n sz:Nat}{agg:Bool}(ht:P.underlying t=some (.slice T))(ti:TI P T sz bytes agg z)(hsz:r.sz=sz)(hn:n=ys.length)(hb:Nat.ble (n*sz) 16777216=true)(hx:tP S (ys.map (tD r)) (xs.map ρ))(w:World):
  ∃cs,o5 r S cs ys∧(Instr.buildSlice t n ((wG 0 xs).toArray.map fun x=>(x.1,ρ x.2))).run P w= .ok (.slice (some ⟨w.heap.size,0,none⟩) n n) (w.alloc (.cells cs.toArray T (0,0))):=by
 subst hsz
 have hb' :=oq hb
 obtain⟨zv,hzr,_⟩:=ti.zero w
 obtain⟨cs,hc,hfill⟩:=B8 ys (xs.map ρ) 0 [] ((Array.range (n*r.sz)).map (fun i=>(if n*r.sz=0 then #[]else zv.cells)[i%(if n*r.sz=0 then #[]else zv.cells).size]!)).toList hx (by simp) (by simp [hn])
 refine⟨cs,hc,?_⟩
 have hparts:((wG 0 xs).toArray.map fun x=>(x.1,ρ x.2)).toList=Ae 0 (xs.map ρ):=by simp [zl]
 simp only [nF,Array.toArray_toList]at hfill
 have hle: ¬(n*r.sz>2^24):=by omega
 by_cases hn0:n*r.sz=0
 ·simp only [hn0,oo]at hfill
  simp only [Instr.buildSlice,pW,hU ht,qz,ti.sizeOf,Sem.run_ite,hn0,oo,Be,hparts,hfill]
  simp [newRow]
 ·simp only [hn0,qw]at hfill
  simp only [Instr.buildSlice,pW,hU ht,qz,ti.sizeOf,Sem.run_ite,hle,qw,hn0,Be,hzr,hparts,hfill]
  simp [newRow]
theorem aP{r:Rp α}{xs:List Operand}{parts:List (Nat×Operand)}{n sz:Nat}{agg:Bool}(ht:E.P.underlying t=some (.slice T))(ti:TI E.P T sz bytes agg z)(hsz:r.sz=sz)(h0:Nat.blt 0 sz=true)(hp:parts=wG 0 xs)(hn:n=ys.length)(hb:Nat.ble (n*sz) 16777216=true)(hx:j6 E.N G xs (ys.map (tD r))):bS E O G ⟨dst,.buildSlice t n parts.toArray,ty,pos,after,g⟩ (tD (fz r) ys):=
 .of_run fun a w S hs _ hf=>by
  obtain⟨cs,hc,hr⟩:=uD ht ti hsz hn hb (hx.tys hf) w
  subst hsz
  have hb' :=oq hb
  have h0' :0<r.sz:=by simpa [sr] using h0
  have hnle:n≤n*r.sz:=Nat.le_mul_of_pos_right n h0'
  obtain⟨he,hs'⟩:=rQ (w:=w) (.cells cs.toArray T (0,0)) hs
  have hcl:=j9 hc
  refine⟨.slice (some ⟨w.heap.size,0,none⟩) n n,_,_,?_,he,hs',lP.2 ⟨_,n,by rw [hn],by omega,by simp only [maxLen];omega,.inr ⟨w.heap.size,0,cs.toArray,T,(0,0),rfl,by simp [SH.set],?_⟩⟩⟩
  ·subst hp
   simp only [execOp,pW,hr,qz,Be]
  ·have:o5 r (S.set w.heap.size (.cells cs.toArray T (0,0))) cs ys:=pr he.keep hc
   simpa [←hcl] using this
theorem Ic{r:Rp α}{v:α}(hx:aE E.N G x (tD r v)):bS E O G ⟨dst,.box T x,ty,pos,after,g⟩ (bq r v):=
 .of_run fun a w S hs _ hf=>by
  obtain⟨cs,hv,hc⟩:=hx S a hf
  obtain⟨he,hs'⟩:=rQ (w:=w) (.cells cs.toArray T (0,0)) hs
  refine⟨.pointer (some ⟨w.heap.size,0,none⟩),_,_,?_,he,hs',w.heap.size,0,cs.toArray,T,(0,0),rfl,by simp [SH.set],?_⟩
  ·simp [execOp,Instr.box,newVar,newRow,hv,sA hc]
  ·have:=r.mono he.keep hc
   have hl:=r.len hc
   simpa [←hl] using this
end

def qJ(c:Bool)(t:Ty):Ty where
 p:=fun S v=>if c=true then t.p S v else v=undef
 mono:=fun h k=>by
  split
  ·rename_i hc;rw [dy hc]at k;exact t.mono h k
  ·rename_i hc;rw [dd hc]at k;exact k
variable{pol:Bool}
section
variable{E:En}{rest:List Oper}
theorem aS{N:Fr}{c:Bool}{t:Ty}(h:look G k=some (qJ c t))(hc:c=true):aE N G (.tmp k) t:=fun _ _ hF=>by
 have h2:if c=true then t.p _ (Act.eval _ (.tmp k))else _=undef:=hF.at_ k _ h
 rw [dy hc]at h2;exact h2
def rF(c b:Bool):Ty:=qJ c (tD rB b)
theorem nw(h:look G k=some (tD rB b)):aE E.N G (.tmp k) (rF true b):=fun _ _ hF=>by
 have h2:(tD rB b).p _ (Act.eval _ (.tmp k)):=hF.at_ k _ h
 simp only [rF,qJ,oo]
 exact h2
theorem ze{c:Bool}(h:look G k=some (qJ c (tD rB b))):aE E.N G (.tmp k) (rF c b):=fun _ _ hF=>hF.at_ k _ h
theorem s5{c:Bool}(hg:o.guard=some (j,pol))(hj:(ops[j]?).bind (·.dst)=some gs)(hn:gs<a.tmps.size)(hv:(rF c b).p S (a.tmps.getD gs undef)):
  Region.wanted o (yielded ops a.tmps)=(c&&(b==pol)):=by
 have hget:a.tmps[gs]? =some (a.tmps.getD gs undef):=by
  rw [FN,Array.getElem?_eq_getElem hn];rfl
 unfold Region.wanted
 rw [hg]
 simp only [yielded,hj,cq,hget]
 cases c with
 |true=>
  have:a.tmps.getD gs undef= .bool b:=gi.1 (by simpa [rF,qJ] using hv)
  rw [this]
  cases b<;>cases pol<;>rfl
 |false=>
  have:a.tmps.getD gs undef=undef:=by simpa [rF,qJ] using hv
  rw [this]
  cases pol<;>rfl
theorem Fz{c:Bool}{op:Op}{ty:TypeId}{t:Ty}(hj:(ops[j]?).bind (·.dst)=some gs)(hgs:Nat.blt gs E.N.n=true)(hg:aE E.N G (.tmp gs) (rF c b))(hd:Nat.blt d E.N.n=true)(h:(c&&(b==pol))=true→bS E O G ⟨some d,op,ty,pos,after,some (j,pol)⟩ t)(k:RG E ops Q rest O ((d,qJ (c&&(b==pol)) t)::G)):
  RG E ops Q (⟨some d,op,ty,pos,after,some (j,pol)⟩::rest) O G:=fun a w S st=>by
 have hgs' :gs<a.tmps.size:=by rw [st.facts.size];simpa [sr] using hgs
 have hw:=s5 (o:=⟨some d,op,ty,pos,after,some (j,pol)⟩) rfl hj hgs' (hg S a st.facts)
 refine wpListIn_step fun K hK=>?_
 rw [hw]
 by_cases hc:(c&&(b==pol))=true
 ·rw [dy hc]
  refine jK (fun a' w' ⟨v,S',ha,he,hs,hv⟩=>?_) (h hc a w S st.sat st.own st.facts)
  subst ha
  refine hK _ _ (k _ _ _ (st.step he hs hd ?_))
  simpa only [qJ,hc,oo] using hv
 ·rw [dd hc]
  refine⟨fun _ _=>trivial,hK _ _ (k _ _ S (st.step (fR _ _ _) st.sat hd ?_))⟩
  show if _ then _ else _
  rw [dd hc]
end

structure Nd where
 slot:Nat
 ty:Ty
 src:Option Nat
def cc(E:En)(O:List OE)(ops:Array Oper)(need:kb)(o:Oper)(t:Ty):Prop:=
 ∀a w S,gR w S→dp E.base E.B w S O→co E.N S a need→
  if Region.wanted o (yielded ops a.tmps)then Gw E.P o a w (fun a' w' => ∃v S',a' =a.put o.dst v∧fM om w S w' S' ∧gR w' S' ∧t.p S' v)else t.p S undef
def iz:List Nd→kb
 |[]=>[]
 |n::l=>(n.slot,n.ty)::iz l
def zN(o:Oper)(j:Nat):Bool:=o.after.toList.any fun e=>Nat.beq e.on j&&Region.binds .any e
def nc(l:List Oper)(o:Oper)(i:Nat)(n:Nd):Bool:=
 match n.src with
 |some j=>(match l[j]? with|some p=>(match p.dst with|some d=>Nat.beq d n.slot|none=>false)|none=>false)&&zN o j
 |none=>l.all fun p=>(match p.dst with|some d=> !(Nat.beq d n.slot)|none=>true)||zN p i
def tS(G:kb)(ts:List Ty)(n:Nd):Prop:=
 match n.src with
 |some j=>ts[j]? =some n.ty
 |none=>look G n.slot=some n.ty
def pV(G:kb)(ts:List Ty):List Nd→Prop
 |[]=>True
 |n::l=>tS G ts n∧pV G ts l
theorem pV.mem: ∀{l:List Nd},pV G ts l→ ∀n∈l,tS G ts n
 |_::_,⟨h,_⟩,_,.head _=>h
 |_::_,⟨_,h⟩,_,.tail _ hm=>pV.mem h _ hm
def QJ(o:Oper):Nat:=o.dst.getD 0
def d8(i:Nat)(o:Oper):Bool:=o.after.toList.all fun e=> !(Region.binds .any e)||Nat.blt e.on i
def DR(E:En)(O:List OE)(G:kb)(l:List Oper)(ts:List Ty):Nat→List Oper→Prop
 |_,[]=>True
 |i,o::rest=>(∃(needs:List Nd) (t:Ty),ts[i]? =some t∧pV G ts needs∧(needs.all (nc l o i))=true∧d8 i o=true∧cc E O l.toArray (iz needs) o t)∧DR E O G l ts (i+1) rest
def s9(N:Nat):List Nat→List Oper→Bool
 |_,[]=>true
 |seen,o::rest=>(match o.dst with|some d=>Nat.blt d N&& !(seen.any (Nat.beq d))&&s9 N (d::seen) rest|none=>false)
def Yx(E:En)(O:List OE)(G:kb)(l:List Oper)(ts:List Ty)(i:Nat)(o:Oper):Prop:=
 ∃(needs:List Nd) (t:Ty),ts[i]? =some t∧pV G ts needs∧(needs.all (nc l o i))=true∧d8 i o=true∧cc E O l.toArray (iz needs) o t
theorem DR.get{E:En}{l:List Oper}(r:List Oper): ∀(k:Nat),DR E O G l ts k r→ ∀(j:Nat) (o:Oper),r[j]? =some o→Yx E O G l ts (k+j) o:=by
 induction r with
 |nil=>intro k _ j o h;simp at h
 |cons p r ih=>
  intro k h j o ho
  cases j with
  |zero=>simp at ho;subst ho;exact h.1
  |succ j=>
   have:=ih (k+1) h.2 j o (by simpa using ho)
   rwa [show k+1+j=k+(j+1)from by omega]at this
theorem uy{N:Nat}(l:List Oper): ∀(seen:List Nat),s9 N seen l=true→
  (∀o:Oper,o∈l→ ∃d,o.dst=some d∧d<N∧d∉seen)∧ ∀(i j:Nat) (o p:Oper),l[i]? =some o→l[j]? =some p→o.dst=p.dst→i=j:=by
 induction l with
 |nil=>exact fun _ _=>⟨fun _ h=>(by cases h),fun _ _ _ _ h=>(by simp at h)⟩
 |cons o l ih=>
  intro seen h
  unfold s9 at h
  cases hd:o.dst with
  |none=>rw [hd]at h;cases h
  |some d=>
   rw [hd]at h
   simp only [iP,Ao]at h
   obtain⟨⟨h1,h2⟩,h3⟩:=h
   have h2' :d∉seen:=fun hm=>by
    rw [List.any_eq_false]at h2
    exact h2 d hm (by simp)
   obtain⟨ih1,ih2⟩:=ih _ h3
   refine⟨fun q hq=>?_,fun i j q p hi hj hdp=>?_⟩
   ·rcases iC.1 hq with rfl|hq
    ·exact⟨d,hd,by simpa [sr] using h1,h2'⟩
    ·obtain⟨d',e1,e2,e3⟩:=ih1 q hq
     exact⟨d',e1,e2,fun hm=>e3 (kG _ hm)⟩
   ·cases i with
    |zero=>
     cases j with
     |zero=>rfl
     |succ j=>
      simp at hi hj
      subst hi
      obtain⟨d',e1,_,e3⟩:=ih1 p (sv hj)
      rw [hd,e1]at hdp
      have e4:d=d' :=by simpa using hdp
      exact absurd (by rw [e4];exact lV ..) e3
    |succ i=>
     cases j with
     |zero=>
      simp at hi hj
      subst hj
      obtain⟨d',e1,_,e3⟩:=ih1 q (sv hi)
      rw [hd,e1]at hdp
      have e4:d' =d:=by simpa using hdp
      exact absurd (by rw [e4];exact lV ..) e3
     |succ j=>rw [ih2 i j q p (by simpa using hi) (by simpa using hj) hdp]

structure DJ(E:En)(O:List OE)(G:kb)(l:List Oper)(ts:List Ty)(done:Array Bool)(a:Act)(w:World)(S:SH):Prop where
 ext:fM E.B E.w0 E.S0 w S
 sat:gR w S
 own:dp E.base E.B w S O
 size:a.tmps.size=E.N.n
 defers:a.defers=E.N.ds
 dsz:done.size=l.length
 down: ∀j o,l[j]? =some o→done.getD j false=true→ ∀e∈o.after,Region.binds .any e=true→done.getD e.on false=true
 old: ∀k t,look G k=some t→(∀j o,l[j]? =some o→done.getD j false=true→o.dst≠some k)→t.p S (a.tmps.getD k undef)
 new: ∀j o d t,l[j]? =some o→done.getD j false=true→o.dst=some d→ts[j]? =some t→t.p S (a.tmps.getD d undef)
theorem DJ.need{E:En}{l:List Oper}(h:DJ E O G l ts done a w S)(hi:l[i]? =some o)(hun:done.getD i true=false)(hwait: ∀e∈o.after,Region.binds .any e=true→done.getD e.on false=true){needs:List Nd}(h1:pV G ts needs)(h2:(needs.all (nc l o i))=true):co E.N S a (iz needs):=by
 have hlt:i<done.size:=by rw [h.dsz];exact(ox.1 hi).1
 have hun' :done.getD i false=false:=by
  simp [hlt]at hun ⊢;exact hun
 refine⟨h.size,h.defers,?_⟩
 have key: ∀n∈needs,n.ty.p S (a.tmps.getD n.slot undef):=by
  intro n hn
  have hs:=kZ.1 h2 n hn
  have ho:=h1.mem n hn
  unfold nc at hs
  unfold tS at ho
  cases hsrc:n.src with
  |some j=>
   rw [hsrc]at hs ho
   simp only [iP]at hs
   obtain⟨hs1,hs2⟩:=hs
   cases hj:l[j]? with
   |none=>rw [hj]at hs1;cases hs1
   |some p=>
    rw [hj]at hs1
    cases hd:p.dst with
    |none=>simp only [hd]at hs1;cases hs1
    |some d=>
     simp only [hd]at hs1
     have hd' :=m8 hs1
     subst hd'
     have hdone:done.getD j false=true:=by
      unfold zN at hs2
      obtain⟨e,he0,hb⟩:=An.1 hs2
      have he:e∈o.after:=by simpa using he0
      simp only [iP]at hb
      have:=hwait e he hb.2
      rwa [m8 hb.1]at this
     exact h.new j p n.slot n.ty hj hdone hd ho
  |none=>
   rw [hsrc]at hs ho
   refine h.old _ _ ho fun j p hj hdone hd=>?_
   have:=kZ.1 hs p (sv hj)
   simp only [hd,Nat.beq_refl,wa,wI]at this
   unfold zN at this
   obtain⟨e,he0,hb⟩:=An.1 this
   have he:e∈p.after:=by simpa using he0
   simp only [iP]at hb
   have h3:=h.down j p hj hdone e he hb.2
   rw [m8 hb.1]at h3
   rw [h3]at hun'
   cases hun'
 clear h1 h2
 intro k t hk
 induction needs with
 |nil=>simp [iz,look]at hk
 |cons n needs ih=>
  unfold iz look at hk
  by_cases hb:Nat.beq n.slot k=true
  ·rw [hb]at hk
   have:=m8 hb
   subst this
   have e:n.ty=t:=by simpa using hk
   rw [←e]
   exact key n (lV ..)
  ·rw [yM]at hb
   rw [hb]at hk
   exact ih (fun m hm=>key m (kG _ hm)) hk
def H8:List Oper→List Ty→kb→kb
 |o::l,t::ts,G=>(QJ o,t)::H8 l ts G
 |_,_,G=>G
theorem DL(l:List Oper): ∀(ts:List Ty) (k:Nat) (t:Ty),(∀o:Oper,o∈l→o.dst≠none)→ts.length=l.length→look (H8 l ts G) k=some t→
  (∃(j:Nat) (o:Oper),l[j]? =some o∧o.dst=some k∧ts[j]? =some t)∨(look G k=some t∧ ∀o:Oper,o∈l→o.dst≠some k):=by
 induction l with
 |nil=>
  intro ts k t _ hl h
  have:ts=[]:=xm (by simpa using hl)
  subst this
  exact .inr ⟨h,fun _ h=>(by cases h)⟩
 |cons o l ih=>
  intro ts k t hne hl h
  cases ts with
  |nil=>simp at hl
  |cons u ts=>
   unfold H8 look at h
   by_cases hb:Nat.beq (QJ o) k=true
   ·rw [hb]at h
    have hk:=m8 hb
    refine .inl ⟨0,o,rfl,?_,by simpa using h⟩
    cases hd:o.dst with
    |none=>exact absurd hd (hne o (lV ..))
    |some d=>simp only [QJ,hd,Option.getD_some]at hk;rw [hk]
   ·rw [yM]at hb
    rw [hb]at h
    rcases ih ts k t (fun p hp=>hne p (kG _ hp)) (by simpa using hl) h with⟨j,p,h1,h2,h3⟩|⟨h1,h2⟩
    ·exact .inl ⟨j+1,p,by simpa using h1,h2,by simpa using h3⟩
    ·refine .inr ⟨h1,fun p hp hd=>?_⟩
     rcases iC.1 hp with rfl|hp
     ·simp [QJ,hd]at hb
     ·exact h2 p hp hd
theorem o6(hd:d<a.tmps.size):(a.put (some d) v).tmps.getD k undef=if d=k then v else a.tmps.getD k undef:=by
 by_cases h:d=k
 ·subst h;simp [Act.put,FN,hd]
 ·simp [Act.put,FN,h]
theorem DJ.step{E:En}{l:List Oper}(h:DJ E O G l ts done a w S)(hsl:s9 E.N.n [] l=true){t:Ty}(hi:l[i]? =some o)(hwait: ∀e∈o.after,Region.binds .any e=true→done.getD e.on false=true)(ht:ts[i]? =some t)(hun:done.getD i true=false)(hext:fM om w S w' S')(hsat:gR w' S')(hv:t.p S' v):DJ E O G l ts (done.setIfInBounds i true) (a.put o.dst v) w' S' :=by
 obtain⟨hs1,hs2⟩:=uy l [] hsl
 obtain⟨d,hd,hdN,_⟩:=hs1 o (sv hi)
 have hda:d<a.tmps.size:=by rw [h.size];exact hdN
 have hlt:i<done.size:=by rw [h.dsz];exact(ox.1 hi).1
 have hset: ∀j,(done.setIfInBounds i true).getD j false=true→j=i∨done.getD j false=true:=fun j hj=>by
  by_cases hij:i=j
  ·exact .inl hij.symm
  ·rw [sw false hij]at hj;exact .inr hj
 have hseti:(done.setIfInBounds i true).getD i false=true:=by simp [hlt]
 have hun' :done.getD i false=false:=by simp [hlt]at hun ⊢;exact hun
 refine⟨h.ext.step0 hext,hsat,h.own.ext0 hext,?_,?_,by simp [h.dsz],fun j p hj hdone e he hb=>?_,fun k u hk hno=>?_,fun j p d' u hj hdone hd' hu=>?_⟩
 ·rw [hd];simp [Act.put,h.size]
 ·rw [hd];exact h.defers
 ·rcases hset j hdone with rfl|hj'
  ·rw [hi]at hj
   have:o=p:=by simpa using hj
   subst this
   exact sU (hwait e he hb)
  ·exact sU (h.down j p hj hj' e he hb)
 ·have hne:d≠k:=fun e=>hno i o hi hseti (by rw [hd,e])
  rw [hd,o6 hda,dd hne]
  exact u.mono hext.keep (h.old k u hk fun j p hj hdone=>hno j p hj (sU hdone))
 ·rw [hd,o6 hda]
  rcases hset j hdone with rfl|hj'
  ·rw [hi]at hj
   have:o=p:=by simpa using hj
   subst this
   rw [hd]at hd'
   have:d=d' :=by simpa using hd'
   subst this
   rw [dy rfl]
   rw [ht]at hu
   have:t=u:=by simpa using hu
   subst this
   exact hv
  ·have hne:d≠d' :=fun e=>by
    subst e
    have:=hs2 i j o p hi hj (by rw [hd,hd'])
    subst this
    rw [hj']at hun';cases hun'
   rw [dd hne]
   exact u.mono hext.keep (h.new j p d' u hj hj' hd' hu)
theorem Hb{l:List Oper}{done:Array Bool}(hsz:done.size=l.length)(hedge: ∀i o,l[i]? =some o→d8 i o=true)(hr:Region.ready .any l.toArray done=[]): ∀n i,i<n→i<l.length→done.getD i false=true
 |0,i,h,_=>by omega
 |n+1,i,h,hi=>by
  have ih:=Hb hsz hedge hr n
  by_cases hd:done.getD i true=true
  ·have:i<done.size:=by omega
   simp [this]at hd ⊢;exact hd
  ·exfalso
   have hmem:i∈Region.ready .any l.toArray done:=by
    rw [qA]
    refine⟨by simpa using hd,l[i],by simp [hi],fun e he hb=>?_⟩
    have:=hedge i l[i] (by simp [hi])
    unfold d8 at this
    have:=kZ.1 this e (by simpa using he)
    simp only [hb,wa,wI,sr]at this
    exact ih e.on (by omega) (by omega)
   rw [hr]at hmem
   cases hmem
def jV(done:Array Bool):Nat:=done.toList.countP (· ==false)
theorem oB(h:done.getD i true=false):jV (done.setIfInBounds i true)+1=jV done:=by
 have hlt:i<done.size:=by
  rcases mT i done.size with h' |h'
  ·exact h'
  ·simp [Array.getElem?_eq_none h']at h
 have hv:done[i]=false:=by simpa [hlt] using h
 unfold jV
 rw [Array.toList_setIfInBounds,List.countP_set (by simpa using hlt)]
 have h2:(done.toList[i]'(by simpa using hlt))=false:=by simpa using hv
 have hpos:0<done.toList.countP (· ==false):=List.countP_pos_iff.2 ⟨done.toList[i]'(by simpa using hlt),Db _,by rw [h2];rfl⟩
 rw [h2,dy (show(false==false)=true from rfl),dd (show¬((true==false)=true) by decide)]
 omega
theorem Hy{E:En}{l:List Oper}(hsl:s9 E.N.n [] l=true)(hd:DR E O G l ts 0 l)(hQ: ∀done a w S,DJ E O G l ts done a w S→(∀i,i<l.length→done.getD i false=true)→Q .normal a w):
  ∀(fuel:Nat) (done:Array Bool) (a:Act) (w:World) (S:SH),jV done=fuel→DJ E O G l ts done a w S→wpAnyIn (fw E.r) 0 E.P .any l.toArray Q fuel done a w:=by
 have hedge: ∀i o,l[i]? =some o→d8 i o=true:=fun i o hi=>by
  obtain⟨_,_,_,_,_,h,_⟩:=DR.get l 0 hd i o hi
  simpa using h
 have fin: ∀done a w S,DJ E O G l ts done a w S→Region.ready .any l.toArray done=[]→Q .normal a w:=fun done a w S h hr=>
  hQ done a w S h fun i hi=>Hb h.dsz hedge hr (i+1) i (by omega) hi
 intro fuel
 induction fuel with
 |zero=>
  intro done a w S hu h
  have hr:Region.ready .any l.toArray done=[]:=by
   cases hr:Region.ready .any l.toArray done with
   |nil=>rfl
   |cons i r=>
    have hm:i∈Region.ready .any l.toArray done:=by rw [hr];exact lV ..
    have:=oB (qA.1 hm).1
    omega
  exact⟨hr,fin done a w S h hr⟩
 |succ fuel ih=>
  intro done a w S hu h
  refine⟨fin done a w S h,fun i hi=>?_⟩
  obtain⟨hun,o,ho,hwait⟩:=qA.1 hi
  have ho' :l[i]? =some o:=by simpa using ho
  obtain⟨needs,t,h1,h2,h3,_,h5⟩:=DR.get l 0 hd i o ho'
  rw [qx]at h1 h3
  have hF:=h.need ho' hun hwait h2 h3
  have h6:=h5 a w S h.sat h.own hF
  have hu' :jV (done.setIfInBounds i true)=fuel:=by have:=oB hun;omega
  unfold wpOpIn
  rw [ho]
  show if _ then _ else _
  by_cases hw:Region.wanted o (yielded l.toArray a.tmps)=true
  ·rw [dy hw]at h6 ⊢
   refine jK (fun a' w' ⟨v,S',ha,he,hs,hv⟩=>?_) h6
   subst ha
   exact ih _ _ _ S' hu' (h.step hsl ho' hwait h1 hun he hs hv)
  ·rw [dd hw]at h6 ⊢
   exact⟨fun _ _=>trivial,ih _ _ _ S hu' (h.step hsl ho' hwait h1 hun (fR _ _ _) h.sat h6)⟩
section
variable{E:En}
theorem eG{id:Nat}{l:List Oper}(hm:E.P.follows .mixedOrders=true)(hsl:s9 E.N.n [] l=true)(hlen:ts.length=l.length)(hd:DR E O G l ts 0 l)(k:AT E Q .normal O (H8 l ts G)):
  CG E Q (.region id l.toArray true) O G:=fun a w S st=>by
 refine wpIn_region_any hm ?_
 obtain⟨he,hs⟩:=vq (w:=w) st.sat
 refine Hy hsl hd (fun done a w S h hall=>k a w S ⟨h.ext,h.sat,h.own,h.size,h.defers,fun j t hj=>?_⟩) _ _ _ _ S ?_
  ⟨st.ext.step0 he,hs,st.own.ext0 he,st.facts.size,st.facts.defers,by simp,fun j o hj hdone=>?_,fun k t hk _=>st.facts.at_ k t hk,fun j o d t hj hdone=>?_⟩
 ·obtain⟨hs1,_⟩:=uy l [] hsl
  rcases DL l ts j t (fun o ho e=>by obtain⟨d,hd,_⟩:=hs1 o ho;rw [hd]at e;cases e) hlen hj with⟨i,o,h1,h2,h3⟩|⟨h1,h2⟩
  ·exact h.new i o j t h1 (hall i (ox.1 h1).1) h2 h3
  ·exact h.old j t h1 fun i o ho _=>h2 o (sv ho)
 ·unfold jV;rw [IW,IT];simp
 ·simp [wM]at hdone
  split at hdone<;>simp at hdone
 ·simp [wM]at hdone
  split at hdone<;>simp at hdone
theorem ak{need:kb}{t:Ty}(hg:o.guard=none)(h:bS E O need o t):cc E O ops need o t:=fun a w S hs ho hf=>by
 have:Region.wanted o (yielded ops a.tmps)=true:=by unfold Region.wanted;rw [hg]
 rw [this,dy rfl]
 exact h a w S hs ho hf
theorem vp{l:List Oper}{need:kb}{t:Ty}{c:Bool}(hg:o.guard=some (j,pol))(hj:((l.toArray)[j]?).bind (·.dst)=some gs)(hgs:Nat.blt gs E.N.n=true)(hb:aE E.N need (.tmp gs) (rF c b))(h:(c&&(b==pol))=true→bS E O need o t):cc E O l.toArray need o (qJ (c&&(b==pol)) t):=fun a w S hs ho hf=>by
 have hw:=s5 (ops:=l.toArray) hg hj (by rw [hf.size];simpa [sr] using hgs) (hb S a hf)
 rw [hw]
 by_cases hc:(c&&(b==pol))=true
 ·rw [dy hc]
  refine lz (fun a' w' ⟨v,S',ha,he,hs,hv⟩=>⟨v,S',ha,he,hs,?_⟩) (h hc a w S hs ho hf)
  show if _ then _ else _
  rw [dy hc];exact hv
 ·rw [dd hc]
  show if _ then _ else _
  rw [dd hc]
end
variable{α0 α1:Type}{Gf:α0→α1→kb}{Of:α0→α1→List OE}{α2 α3 α4 α5 α6:Type}
section
variable{E:En}
theorem zF{id:Nat}{Z:Prop}{Of:List OE}{Gf:kb}(hK:Z→AT E Q .normal (Of) (Gf))(h:(Z→AT E Q .normal (Of) (Gf))→CG E (Exit.inBlock id Q) c O G):CG E Q (.block id c) O G:=ax (h hK)
theorem El{x y:Code}{Z:Prop}{Of:List OE}{Gf:kb}(hK:Z→CG E Q y (Of) (Gf))
  (h:(Z→AT E (Exit.then (y.wpIn (fw E.r) 0 E.P Q) Q) .normal (Of) (Gf))→CG E (Exit.then (y.wpIn (fw E.r) 0 E.P Q) Q) x O G):CG E Q (.seq x y) O G:=ae (h (fun hz=>hK hz))
theorem d6{Z:List β→α0→Prop}{Of:List β→α0→List OE}{Gf:List β→α0→kb}(h0: ∀x0,Z [] x0→LG E Q c (Of [] x0) (Gf [] x0))(h: ∀b l,(∀x0,Z l x0→LG E Q c (Of l x0) (Gf l x0))→ ∀x0,Z (b::l) x0→LG E Q c (Of (b::l) x0) (Gf (b::l) x0)): ∀l,∀x0,Z l x0→LG E Q c (Of l x0) (Gf l x0)
 |[]=>h0
 |b::l=>h b l (d6 h0 h l)
theorem FD{Z:Nat→α0→Prop}{Of:Nat→α0→List OE}{Gf:Nat→α0→kb}(h0: ∀x0,Z 0 x0→LG E Q c (Of 0 x0) (Gf 0 x0))(h: ∀n,(∀x0,Z n x0→LG E Q c (Of n x0) (Gf n x0))→ ∀x0,Z (n+1) x0→LG E Q c (Of (n+1) x0) (Gf (n+1) x0)): ∀n,∀x0,Z n x0→LG E Q c (Of n x0) (Gf n x0)
 |0=>h0
 |n+1=>h n (FD h0 h n)
theorem Eo{id:Nat}{Z:α0→Prop}{Of:α0→List OE}{Gf:α0→kb}(hK: ∀x0,Z x0→AT E Q .normal (Of x0) (Gf x0))(h:(∀x0,Z x0→AT E Q .normal (Of x0) (Gf x0))→CG E (Exit.inBlock id Q) c O G):CG E Q (.block id c) O G:=ax (h hK)
theorem fD{x y:Code}{Z:α0→Prop}{Of:α0→List OE}{Gf:α0→kb}(hK: ∀x0,Z x0→CG E Q y (Of x0) (Gf x0))(h:(∀x0,Z x0→AT E (Exit.then (y.wpIn (fw E.r) 0 E.P Q) Q) .normal (Of x0) (Gf x0))→CG E (Exit.then (y.wpIn (fw E.r) 0 E.P Q) Q) x O G):CG E Q (.seq x y) O G:=ae (h (fun x0=>fun hz=>hK x0 hz))
theorem A9{Z:Nat→α0→α1→Prop}(h0: ∀x0 x1,Z 0 x0 x1→False)(h: ∀n,(∀x0 x1,Z n x0 x1→LG E Q c (Of x0 x1) (Gf x0 x1))→ ∀x0 x1,Z (n+1) x0 x1→LG E Q c (Of x0 x1) (Gf x0 x1)): ∀n,∀x0 x1,Z n x0 x1→LG E Q c (Of x0 x1) (Gf x0 x1)
 |0=>fun x0 x1 hz=>(h0 x0 x1 hz).elim
 |n+1=>h n (A9 h0 h n)
theorem ln{Z:List β→α0→α1→Prop}{Of:List β→α0→α1→List OE}{Gf:List β→α0→α1→kb}(h0: ∀x0 x1,Z [] x0 x1→LG E Q c (Of [] x0 x1) (Gf [] x0 x1))(h: ∀b l,(∀x0 x1,Z l x0 x1→LG E Q c (Of l x0 x1) (Gf l x0 x1))→ ∀x0 x1,Z (b::l) x0 x1→LG E Q c (Of (b::l) x0 x1) (Gf (b::l) x0 x1)): ∀l,∀x0 x1,Z l x0 x1→LG E Q c (Of l x0 x1) (Gf l x0 x1)
 |[]=>h0
 |b::l=>h b l (ln h0 h l)
theorem Kb{Z:Nat→α0→α1→Prop}{Of:Nat→α0→α1→List OE}{Gf:Nat→α0→α1→kb}(h0: ∀x0 x1,Z 0 x0 x1→LG E Q c (Of 0 x0 x1) (Gf 0 x0 x1))(h: ∀n,(∀x0 x1,Z n x0 x1→LG E Q c (Of n x0 x1) (Gf n x0 x1))→ ∀x0 x1,Z (n+1) x0 x1→LG E Q c (Of (n+1) x0 x1) (Gf (n+1) x0 x1)): ∀n,∀x0 x1,Z n x0 x1→LG E Q c (Of n x0 x1) (Gf n x0 x1)
 |0=>h0
 |n+1=>h n (Kb h0 h n)
theorem LQ{id:Nat}{Z:α0→α1→Prop}(hK: ∀x0 x1,Z x0 x1→AT E Q .normal (Of x0 x1) (Gf x0 x1))(h:(∀x0 x1,Z x0 x1→AT E Q .normal (Of x0 x1) (Gf x0 x1))→CG E (Exit.inBlock id Q) c O G):CG E Q (.block id c) O G:=ax (h hK)
theorem Ek{x y:Code}{Z:α0→α1→Prop}(hK: ∀x0 x1,Z x0 x1→CG E Q y (Of x0 x1) (Gf x0 x1))(h:(∀x0 x1,Z x0 x1→AT E (Exit.then (y.wpIn (fw E.r) 0 E.P Q) Q) .normal (Of x0 x1) (Gf x0 x1))→CG E (Exit.then (y.wpIn (fw E.r) 0 E.P Q) Q) x O G):CG E Q (.seq x y) O G:=ae (h (fun x0 x1=>fun hz=>hK x0 x1 hz))
theorem rm{Z:List β→α0→α1→α2→Prop}{Of:List β→α0→α1→α2→List OE}{Gf:List β→α0→α1→α2→kb}(h0: ∀x0 x1 x2,Z [] x0 x1 x2→LG E Q c (Of [] x0 x1 x2) (Gf [] x0 x1 x2))(h: ∀b l,(∀x0 x1 x2,Z l x0 x1 x2→LG E Q c (Of l x0 x1 x2) (Gf l x0 x1 x2))→ ∀x0 x1 x2,Z (b::l) x0 x1 x2→LG E Q c (Of (b::l) x0 x1 x2) (Gf (b::l) x0 x1 x2)): ∀l,∀x0 x1 x2,Z l x0 x1 x2→LG E Q c (Of l x0 x1 x2) (Gf l x0 x1 x2)
 |[]=>h0
 |b::l=>h b l (rm h0 h l)
theorem Ka{Z:Nat→α0→α1→α2→Prop}{Of:Nat→α0→α1→α2→List OE}{Gf:Nat→α0→α1→α2→kb}(h0: ∀x0 x1 x2,Z 0 x0 x1 x2→LG E Q c (Of 0 x0 x1 x2) (Gf 0 x0 x1 x2))(h: ∀n,(∀x0 x1 x2,Z n x0 x1 x2→LG E Q c (Of n x0 x1 x2) (Gf n x0 x1 x2))→ ∀x0 x1 x2,Z (n+1) x0 x1 x2→LG E Q c (Of (n+1) x0 x1 x2) (Gf (n+1) x0 x1 x2)): ∀n,∀x0 x1 x2,Z n x0 x1 x2→LG E Q c (Of n x0 x1 x2) (Gf n x0 x1 x2)
 |0=>h0
 |n+1=>h n (Ka h0 h n)
theorem zD{x y:Code}{Z:α0→α1→α2→Prop}{Of:α0→α1→α2→List OE}{Gf:α0→α1→α2→kb}(hK: ∀x0 x1 x2,Z x0 x1 x2→CG E Q y (Of x0 x1 x2) (Gf x0 x1 x2))(h:(∀x0 x1 x2,Z x0 x1 x2→AT E (Exit.then (y.wpIn (fw E.r) 0 E.P Q) Q) .normal (Of x0 x1 x2) (Gf x0 x1 x2))→CG E (Exit.then (y.wpIn (fw E.r) 0 E.P Q) Q) x O G):CG E Q (.seq x y) O G:=ae (h (fun x0 x1 x2=>fun hz=>hK x0 x1 x2 hz))
theorem Ke{Z:Nat→α0→α1→α2→α3→Prop}{Of:α0→α1→α2→α3→List OE}{Gf:α0→α1→α2→α3→kb}(h0: ∀x0 x1 x2 x3,Z 0 x0 x1 x2 x3→False)(h: ∀n,(∀x0 x1 x2 x3,Z n x0 x1 x2 x3→LG E Q c (Of x0 x1 x2 x3) (Gf x0 x1 x2 x3))→ ∀x0 x1 x2 x3,Z (n+1) x0 x1 x2 x3→LG E Q c (Of x0 x1 x2 x3) (Gf x0 x1 x2 x3)): ∀n,∀x0 x1 x2 x3,Z n x0 x1 x2 x3→LG E Q c (Of x0 x1 x2 x3) (Gf x0 x1 x2 x3)
 |0=>fun x0 x1 x2 x3 hz=>(h0 x0 x1 x2 x3 hz).elim
 |n+1=>h n (Ke h0 h n)
theorem mp{Z:List β→α0→α1→α2→α3→Prop}{Of:List β→α0→α1→α2→α3→List OE}{Gf:List β→α0→α1→α2→α3→kb}(h0: ∀x0 x1 x2 x3,Z [] x0 x1 x2 x3→LG E Q c (Of [] x0 x1 x2 x3) (Gf [] x0 x1 x2 x3))(h: ∀b l,(∀x0 x1 x2 x3,Z l x0 x1 x2 x3→LG E Q c (Of l x0 x1 x2 x3) (Gf l x0 x1 x2 x3))→ ∀x0 x1 x2 x3,Z (b::l) x0 x1 x2 x3→LG E Q c (Of (b::l) x0 x1 x2 x3) (Gf (b::l) x0 x1 x2 x3)): ∀l,∀x0 x1 x2 x3,Z l x0 x1 x2 x3→LG E Q c (Of l x0 x1 x2 x3) (Gf l x0 x1 x2 x3)
 |[]=>h0
 |b::l=>h b l (mp h0 h l)
theorem J9{Z:Nat→α0→α1→α2→α3→Prop}{Of:Nat→α0→α1→α2→α3→List OE}{Gf:Nat→α0→α1→α2→α3→kb}(h0: ∀x0 x1 x2 x3,Z 0 x0 x1 x2 x3→LG E Q c (Of 0 x0 x1 x2 x3) (Gf 0 x0 x1 x2 x3))(h: ∀n,(∀x0 x1 x2 x3,Z n x0 x1 x2 x3→LG E Q c (Of n x0 x1 x2 x3) (Gf n x0 x1 x2 x3))→ ∀x0 x1 x2 x3,Z (n+1) x0 x1 x2 x3→LG E Q c (Of (n+1) x0 x1 x2 x3) (Gf (n+1) x0 x1 x2 x3)): ∀n,∀x0 x1 x2 x3,Z n x0 x1 x2 x3→LG E Q c (Of n x0 x1 x2 x3) (Gf n x0 x1 x2 x3)
 |0=>h0
 |n+1=>h n (J9 h0 h n)
theorem Em{id:Nat}{Z:α0→α1→α2→α3→Prop}{Of:α0→α1→α2→α3→List OE}{Gf:α0→α1→α2→α3→kb}(hK: ∀x0 x1 x2 x3,Z x0 x1 x2 x3→AT E Q .normal (Of x0 x1 x2 x3) (Gf x0 x1 x2 x3))(h:(∀x0 x1 x2 x3,Z x0 x1 x2 x3→AT E Q .normal (Of x0 x1 x2 x3) (Gf x0 x1 x2 x3))→CG E (Exit.inBlock id Q) c O G):CG E Q (.block id c) O G:=ax (h hK)
theorem sN{Z:List β→α0→α1→α2→α3→α4→Prop}{Of:List β→α0→α1→α2→α3→α4→List OE}{Gf:List β→α0→α1→α2→α3→α4→kb}(h0: ∀x0 x1 x2 x3 x4,Z [] x0 x1 x2 x3 x4→LG E Q c (Of [] x0 x1 x2 x3 x4) (Gf [] x0 x1 x2 x3 x4))(h: ∀b l,(∀x0 x1 x2 x3 x4,Z l x0 x1 x2 x3 x4→LG E Q c (Of l x0 x1 x2 x3 x4) (Gf l x0 x1 x2 x3 x4))→ ∀x0 x1 x2 x3 x4,Z (b::l) x0 x1 x2 x3 x4→LG E Q c (Of (b::l) x0 x1 x2 x3 x4) (Gf (b::l) x0 x1 x2 x3 x4)): ∀l,∀x0 x1 x2 x3 x4,Z l x0 x1 x2 x3 x4→LG E Q c (Of l x0 x1 x2 x3 x4) (Gf l x0 x1 x2 x3 x4)
 |[]=>h0
 |b::l=>h b l (sN h0 h l)
theorem LP{id:Nat}{Z:α0→α1→α2→α3→α4→Prop}{Of:α0→α1→α2→α3→α4→List OE}{Gf:α0→α1→α2→α3→α4→kb}(hK: ∀x0 x1 x2 x3 x4,Z x0 x1 x2 x3 x4→AT E Q .normal (Of x0 x1 x2 x3 x4) (Gf x0 x1 x2 x3 x4))(h:(∀x0 x1 x2 x3 x4,Z x0 x1 x2 x3 x4→AT E Q .normal (Of x0 x1 x2 x3 x4) (Gf x0 x1 x2 x3 x4))→CG E (Exit.inBlock id Q) c O G):CG E Q (.block id c) O G:=ax (h hK)
theorem Kc{Z:Nat→α0→α1→α2→α3→α4→α5→Prop}{Of:α0→α1→α2→α3→α4→α5→List OE}{Gf:α0→α1→α2→α3→α4→α5→kb}(h0: ∀x0 x1 x2 x3 x4 x5,Z 0 x0 x1 x2 x3 x4 x5→False)(h: ∀n,(∀x0 x1 x2 x3 x4 x5,Z n x0 x1 x2 x3 x4 x5→LG E Q c (Of x0 x1 x2 x3 x4 x5) (Gf x0 x1 x2 x3 x4 x5))→ ∀x0 x1 x2 x3 x4 x5,Z (n+1) x0 x1 x2 x3 x4 x5→LG E Q c (Of x0 x1 x2 x3 x4 x5) (Gf x0 x1 x2 x3 x4 x5)): ∀n,∀x0 x1 x2 x3 x4 x5,Z n x0 x1 x2 x3 x4 x5→LG E Q c (Of x0 x1 x2 x3 x4 x5) (Gf x0 x1 x2 x3 x4 x5)
 |0=>fun x0 x1 x2 x3 x4 x5 hz=>(h0 x0 x1 x2 x3 x4 x5 hz).elim
 |n+1=>h n (Kc h0 h n)
theorem Cw{Z:List β→α0→α1→α2→α3→α4→α5→Prop}{Of:List β→α0→α1→α2→α3→α4→α5→List OE}{Gf:List β→α0→α1→α2→α3→α4→α5→kb}(h0: ∀x0 x1 x2 x3 x4 x5,Z [] x0 x1 x2 x3 x4 x5→LG E Q c (Of [] x0 x1 x2 x3 x4 x5) (Gf [] x0 x1 x2 x3 x4 x5))(h: ∀b l,(∀x0 x1 x2 x3 x4 x5,Z l x0 x1 x2 x3 x4 x5→LG E Q c (Of l x0 x1 x2 x3 x4 x5) (Gf l x0 x1 x2 x3 x4 x5))→ ∀x0 x1 x2 x3 x4 x5,Z (b::l) x0 x1 x2 x3 x4 x5→LG E Q c (Of (b::l) x0 x1 x2 x3 x4 x5) (Gf (b::l) x0 x1 x2 x3 x4 x5)): ∀l,∀x0 x1 x2 x3 x4 x5,Z l x0 x1 x2 x3 x4 x5→LG E Q c (Of l x0 x1 x2 x3 x4 x5) (Gf l x0 x1 x2 x3 x4 x5)
 |[]=>h0
 |b::l=>h b l (Cw h0 h l)
theorem J8{Z:Nat→α0→α1→α2→α3→α4→α5→Prop}{Of:Nat→α0→α1→α2→α3→α4→α5→List OE}{Gf:Nat→α0→α1→α2→α3→α4→α5→kb}(h0: ∀x0 x1 x2 x3 x4 x5,Z 0 x0 x1 x2 x3 x4 x5→LG E Q c (Of 0 x0 x1 x2 x3 x4 x5) (Gf 0 x0 x1 x2 x3 x4 x5))(h: ∀n,(∀x0 x1 x2 x3 x4 x5,Z n x0 x1 x2 x3 x4 x5→LG E Q c (Of n x0 x1 x2 x3 x4 x5) (Gf n x0 x1 x2 x3 x4 x5))→ ∀x0 x1 x2 x3 x4 x5,Z (n+1) x0 x1 x2 x3 x4 x5→LG E Q c (Of (n+1) x0 x1 x2 x3 x4 x5) (Gf (n+1) x0 x1 x2 x3 x4 x5)): ∀n,∀x0 x1 x2 x3 x4 x5,Z n x0 x1 x2 x3 x4 x5→LG E Q c (Of n x0 x1 x2 x3 x4 x5) (Gf n x0 x1 x2 x3 x4 x5)
 |0=>h0
 |n+1=>h n (J8 h0 h n)
theorem zE{id:Nat}{Z:α0→α1→α2→α3→α4→α5→Prop}{Of:α0→α1→α2→α3→α4→α5→List OE}{Gf:α0→α1→α2→α3→α4→α5→kb}(hK: ∀x0 x1 x2 x3 x4 x5,Z x0 x1 x2 x3 x4 x5→AT E Q .normal (Of x0 x1 x2 x3 x4 x5) (Gf x0 x1 x2 x3 x4 x5))(h:(∀x0 x1 x2 x3 x4 x5,Z x0 x1 x2 x3 x4 x5→AT E Q .normal (Of x0 x1 x2 x3 x4 x5) (Gf x0 x1 x2 x3 x4 x5))→CG E (Exit.inBlock id Q) c O G):CG E Q (.block id c) O G:=ax (h hK)
theorem yE{Z:List β→α0→α1→α2→α3→α4→α5→α6→Prop}{Of:List β→α0→α1→α2→α3→α4→α5→α6→List OE}{Gf:List β→α0→α1→α2→α3→α4→α5→α6→kb}(h0: ∀x0 x1 x2 x3 x4 x5 x6,Z [] x0 x1 x2 x3 x4 x5 x6→LG E Q c (Of [] x0 x1 x2 x3 x4 x5 x6) (Gf [] x0 x1 x2 x3 x4 x5 x6))(h: ∀b l,(∀x0 x1 x2 x3 x4 x5 x6,Z l x0 x1 x2 x3 x4 x5 x6→LG E Q c (Of l x0 x1 x2 x3 x4 x5 x6) (Gf l x0 x1 x2 x3 x4 x5 x6))→ ∀x0 x1 x2 x3 x4 x5 x6,Z (b::l) x0 x1 x2 x3 x4 x5 x6→LG E Q c (Of (b::l) x0 x1 x2 x3 x4 x5 x6) (Gf (b::l) x0 x1 x2 x3 x4 x5 x6)): ∀l,∀x0 x1 x2 x3 x4 x5 x6,Z l x0 x1 x2 x3 x4 x5 x6→LG E Q c (Of l x0 x1 x2 x3 x4 x5 x6) (Gf l x0 x1 x2 x3 x4 x5 x6)
 |[]=>h0
 |b::l=>h b l (yE h0 h l)
theorem sM{α7:Type}{Z:List β→α0→α1→α2→α3→α4→α5→α6→α7→Prop}{Of:List β→α0→α1→α2→α3→α4→α5→α6→α7→List OE}{Gf:List β→α0→α1→α2→α3→α4→α5→α6→α7→kb}(h0: ∀x0 x1 x2 x3 x4 x5 x6 x7,Z [] x0 x1 x2 x3 x4 x5 x6 x7→LG E Q c (Of [] x0 x1 x2 x3 x4 x5 x6 x7) (Gf [] x0 x1 x2 x3 x4 x5 x6 x7))(h: ∀b l,(∀x0 x1 x2 x3 x4 x5 x6 x7,Z l x0 x1 x2 x3 x4 x5 x6 x7→LG E Q c (Of l x0 x1 x2 x3 x4 x5 x6 x7) (Gf l x0 x1 x2 x3 x4 x5 x6 x7))→ ∀x0 x1 x2 x3 x4 x5 x6 x7,Z (b::l) x0 x1 x2 x3 x4 x5 x6 x7→LG E Q c (Of (b::l) x0 x1 x2 x3 x4 x5 x6 x7) (Gf (b::l) x0 x1 x2 x3 x4 x5 x6 x7)): ∀l,∀x0 x1 x2 x3 x4 x5 x6 x7,Z l x0 x1 x2 x3 x4 x5 x6 x7→LG E Q c (Of l x0 x1 x2 x3 x4 x5 x6 x7) (Gf l x0 x1 x2 x3 x4 x5 x6 x7)
 |[]=>h0
 |b::l=>h b l (sM h0 h l)
theorem yD{α7 α8:Type}{Z:List β→α0→α1→α2→α3→α4→α5→α6→α7→α8→Prop}{Of:List β→α0→α1→α2→α3→α4→α5→α6→α7→α8→List OE}{Gf:List β→α0→α1→α2→α3→α4→α5→α6→α7→α8→kb}(h0: ∀x0 x1 x2 x3 x4 x5 x6 x7 x8,Z [] x0 x1 x2 x3 x4 x5 x6 x7 x8→LG E Q c (Of [] x0 x1 x2 x3 x4 x5 x6 x7 x8) (Gf [] x0 x1 x2 x3 x4 x5 x6 x7 x8))(h: ∀b l,(∀x0 x1 x2 x3 x4 x5 x6 x7 x8,Z l x0 x1 x2 x3 x4 x5 x6 x7 x8→LG E Q c (Of l x0 x1 x2 x3 x4 x5 x6 x7 x8) (Gf l x0 x1 x2 x3 x4 x5 x6 x7 x8))→ ∀x0 x1 x2 x3 x4 x5 x6 x7 x8,Z (b::l) x0 x1 x2 x3 x4 x5 x6 x7 x8→LG E Q c (Of (b::l) x0 x1 x2 x3 x4 x5 x6 x7 x8) (Gf (b::l) x0 x1 x2 x3 x4 x5 x6 x7 x8)): ∀l,∀x0 x1 x2 x3 x4 x5 x6 x7 x8,Z l x0 x1 x2 x3 x4 x5 x6 x7 x8→LG E Q c (Of l x0 x1 x2 x3 x4 x5 x6 x7 x8) (Gf l x0 x1 x2 x3 x4 x5 x6 x7 x8)
 |[]=>h0
 |b::l=>h b l (yD h0 h l)
end
theorem bs{α:Type _}{β:Type _}{x:Option α}{k:α→Option β}{r:β}(h:x.bind k=some r): ∃y,x=some y∧k y=some r:=by
 cases x with
 |none=>cases h
 |some y=>exact⟨y,rfl,h⟩
theorem ct{β:Type _}{x y:Option β}{r:β}(h:(if b=true then x else y)=some r)(hb:b=true):x=some r:=by rwa [dy hb]at h
theorem cf{β:Type _}{x y:Option β}{r:β}(h:(if b=true then x else y)=some r)(hb:b=false):y=some r:=by rwa [dd (by rw [hb];decide)]at h
theorem so{β:Type _}{x r:β}(h:some x=some r):x=r:=by simpa using h
theorem og [Inhabited α]{x:Option α}{k:α→Option β}{d:Option β}{r:β}(h:(if b=true then x.bind k else d)=some r): ∃y,(b=true→x=some y∧k y=some r)∧(b=false→d=some r):=by
 cases b with
 |true=>obtain⟨y,h1,h2⟩:=bs (ct h rfl);exact⟨y,fun _=>⟨h1,h2⟩,fun e=>(by cases e)⟩
 |false=>exact⟨default,fun e=>(by cases e),fun _=>cf h rfl⟩

def cI{α β:Type}(p:Rp α)(q:Rp β):Rp (α×β) where
 sz:=p.sz+q.sz
 agg:=true
 rc:=fun S cs x=> ∃a b,cs=a++b∧p.rc S a x.1∧q.rc S b x.2
 mono:=fun h ⟨a,b,e,h1,h2⟩=>⟨a,b,e,p.mono h h1,q.mono h h2⟩
 len:=fun⟨a,b,e,h1,h2⟩=>by rw [e,mq,p.len h1,q.len h2]
 one:=fun⟨a,b,e,h1,h2⟩ c hc=>by
  rw [e]at hc
  rcases wK.1 hc with h|h
  ·exact p.one h1 c h
  ·exact q.one h2 c h
 sc:=fun h=>by cases h
def pt{α β:Type}(p:Rp α)(f:β→α):Rp β where
 sz:=p.sz
 agg:=true
 rc:=fun S cs x=>p.rc S cs (f x)
 mono:=fun h k=>p.mono h k
 len:=fun h=>p.len h
 one:=fun h=>p.one h
 sc:=fun h=>by cases h
theorem bY{p:Rp α}{f:β→α}:ka (pt p f) 0 p f:=fun S cs x h=>by
 have h' :p.rc S cs (f x):=h
 have hl:=p.len h'
 rw [uc,←hl,Bc];exact h'
theorem cV{γ:Type}{p:Rp α}{r:Rp γ}{get:γ→α×β}(h:ka r off (cI p q) get):ka r off p (fun x=>(get x).1):=fun S cs x k=>by
 obtain⟨a,b,e,h1,h2⟩:=h S cs x k
 have hl:=p.len h1
 have hl2:=q.len h2
 have:(cs.drop off).take p.sz=a:=by
  have e2:=congrArg (List.take p.sz) e
  rw [Al,xi (by show p.sz≤p.sz+q.sz;omega),←hl,List.take_left]at e2
  rw [←hl];exact e2
 rw [this];exact h1
theorem aG{γ:Type}{p:Rp α}{r:Rp γ}{off' :Nat}{get:γ→α×β}(h:ka r off (cI p q) get)(ho:off' =off+p.sz):ka r off' q (fun x=>(get x).2):=fun S cs x k=>by
 obtain⟨a,b,e,h1,h2⟩:=h S cs x k
 have hl:=p.len h1
 have hl2:=q.len h2
 have:(cs.drop off').take q.sz=b:=by
  have e2:=congrArg (List.drop p.sz) e
  rw [zI,ud,←hl,List.drop_left]at e2
  rw [ho,←hl,←e2]
  congr 1
  show q.sz=p.sz+q.sz-a.length
  omega
 rw [this];exact h2
end Go.Proofs.YtmogpgcfognefaaGreatDoor

