/- dr of this claim: W1, W49, W2, W3, W4, W5, W6, W7, W8, W9, W10, W11. -/
import Derived.WalkKit
import Derived.Orders
import Derived.Shelf.Unicode.CaseTo
import Derived.Shelf.Unicode.DecodeSlow
import Derived.Lone
import Derived.RunT
import Derived.Calls
import Derived.RangeFuncIn
import Derived.TacticsIn
import Derived.OrdersIn
import Derived.LoopIn
import Derived.Laws.AppendOwn
import Derived.Deep.Upon
import Derived.Lib.AppendStr
import Derived.IntWalk
set_option linter.all false
namespace Go.Proofs.YtnmjbolollcokaaGreatDoor
open Go
def bC:= @Option.bind_some
def bM:= @if_neg
def bS:= @if_pos
def eW:= @Nat.le_refl
def qW:= @List.getElem?_eq_some_iff
def q6:= @List.getElem?_eq_getElem
def pS:= @List.mem_cons_of_mem
def iA:= @List.mem_cons_self
def iS:= @List.append_assoc
def iR:= @List.length_cons
def lw:= @List.length_append
def ke:= @List.nil_append
def mA:= @Bool.false_eq_true
def lH:= @Bool.and_eq_true
def jl:= @List.mem_cons
def pj:= @Nat.eq_of_beq_eq_true
def kH:= @run_underlying
def iP:= @Nat.zero_le
def pT:= @Nat.le_of_ble_eq_true
def sP:= @List.getElem?_append_right
def r0:= @List.drop_eq_getElem_cons
def vv:= @List.eq_nil_of_length_eq_zero
def rZ:= @List.take_of_length_le
def lu:= @Nat.lt_or_ge
def vd:= @Array.getElem?_eq_some_iff
def pi:= @List.all_eq_true
def po:= @Option.some.inj
def oQ:= @decide_eq_false
def ta:= @List.mem_of_getElem?
def oh:= @Bool.not_true
def nf:= @Nat.le_trans
def vc:= @List.drop_of_length_le
def q8:= @decide_eq_true_eq
def ji:= @if_false
def rY:= @Result.andThen_ok
def vb:= @List.take_append_drop
def zg:= @List.take_append_of_le_length
def xc:= @List.getElem?_append_left
def qn:= @decide_eq_true
def tQ:= @List.mem_singleton
def sN:= @List.length_nil
def jW:= @if_true
def zf:= @Array.getElem?_replicate
def sM:= @List.drop_zero
def qV:= @Sem.run_bind
def q7:= @Nat.zero_add
def wU:= @Nat.lt_of_lt_of_le
def Bg:= @List.getElem?_take_of_lt
def zZ:= @Option.map_eq_some_iff
def xb:= @List.getElem?_drop
def va:= @List.drop_drop
def Bf:= @List.drop_eq_nil_of_le
def zY:= @List.drop_eq_nil_iff
def yG:= @Int.toNat_natCast
def wT:= @List.mem_append
def xa:= @Bool.or_eq_true
def Df:= @decide_eq_false_iff_not
def zX:= @Stepped.next.injEq
def vR:= @getD_set_true
def Gv:= @Array.getD_eq_getD_getElem?
def CA:= @Nat.mul_le_mul_right
def vu:= @Nat.sub_self
def yF:= @Bool.eq_iff_iff
def wS:= @Bool.false_or
def zW:= @Bool.not_eq_true
def w9:= @List.all_cons
def Be:= @Bool.not_eq_true'
def w8:= @Bool.true_and
def zU:= @List.append_nil
def u9:= @Nat.blt_eq
def Bd:= @List.cons_append
def yE:= @List.map_cons
def JE:= @List.drop_append_of_le_length
def Bc:= @Nat.min_eq_left
def Mt:= @List.take_succ_eq_append_getElem
def Cz:= @Nat.lt_succ_self
def Cy:= @List.any_eq_true
def yD:= @Nat.add_zero
def w7:= @Nat.add_mul
def HG:= @List.getElem?_cons_zero
def Bb:= @Bool.not_false
def Ba:= @List.take_take
def HF:= @List.getElem?_eq_none
def Cx:= @heap_alloc_new
def HE:= @Bool.and_eq_true_iff
def yS:= @IntKind.wrap_i64
def xe:= @List.drop_take
def Aa:= @Bool.eq_false_iff
def z8:= @List.length_take
def vw:= @getD_set_ne
def xd:= @List.any_cons
def Dk:= @List.mem_append_left
def uA:= @bne_iff_ne
def Ff:= @Option.bind_eq_some_iff
def B2:= @List.getElem?_map
def tR:= @mem_ready
def Dj:= @Array.length_toList
def B0:= @List.length_drop
def BZ:= @List.take_length
def yR:= @Nat.le_of_eq
def wJ:= @beq_iff_eq
def Di:= @decide_eq_decide
def z7:= @List.mem_map
def z6:= @List.map_nil
def Dh:= @List.map_append
def HN:= @List.set_append_right
def HM:= @List.contains_iff_mem
def HK:= @List.length_replicate
def Fb:= @List.ext_getElem?
def Fa:= @List.size_toArray
def HJ:= @Bool.or_eq_false_iff
def BY:= @Sem.run_pure
def BX:= @Sem.runT_fst
def HI:= @List.map_congr_left
def Dg:= @callsIn_of_wp
def E9:= @Option.map_some
def K8:= @Array.toList_replicate
def K0:= @MapKept.run_getObj_map
def HH:= @Option.some.injEq
def E8:= @Bool.and_assoc
def KZ:= @List.singleton_append
def KY:= @List.countP_replicate
def KX:= @List.mem_append_right
def E7:= @Bool.false_and
def KW:= @MapKept.run_checkKey

def ES:Obj→Obj→Prop
 | .cells c E fr,o' => ∃d:List Value,o' = .cells (c.toList++d).toArray E fr
 |o,o' =>o' =o
variable{o:Oper}
theorem xG(o:Obj):ES o o:=by
 cases o<;>first|rfl|exact⟨[],by simp⟩
variable{c:Code}{cells:List Value}{d:Nat}{fr:Nat×Nat}{k:Nat}{o' :Obj}
theorem FJ{o o'' :Obj}(h:ES o o')(k:ES o' o''):ES o o'' :=by
 cases o with
 |cells c E fr=>
  obtain⟨d,rfl⟩:=h
  obtain⟨d',rfl⟩:=k
  exact⟨d++d',by simp⟩
 |_=>cases h;exact k
variable{off:Nat}
theorem D3{c:Array Value}{E:TypeId}(h:ES (.cells c E fr) o'){n:Nat}(hl:((c.toList.drop off).take n).length=n):
  ∃c',o' = .cells c' E fr∧(c'.toList.drop off).take n=(c.toList.drop off).take n:=by
 obtain⟨d,rfl⟩:=h
 refine⟨_,rfl,?_⟩
 by_cases hn:n=0
 ·subst hn;simp
 simp only [z8,B0]at hl
 rw [JE (by omega),zg (by simp only [B0];omega)]
abbrev SH:=Nat→Option Obj
def SH.le(S S' :SH):Prop:= ∀b o,S b=some o→ ∃o',S' b=some o' ∧ES o o'
variable{S:SH}
theorem SH.le_refl(S:SH):SH.le S S:=fun _ o h=>⟨o,h,xG o⟩
variable{S' S'' :SH}{b:Bool}{e:TypeId}
theorem SH.le_trans(h:SH.le S S')(k:SH.le S' S''):SH.le S S'' :=fun b o e=>let⟨o',h1,h2⟩:=h b o e;let⟨o'',h3,h4⟩:=k b o' h1;⟨o'',h3,FJ h2 h4⟩
structure Ty where
 p:SH→Value→Prop
 mono: ∀{S S' :SH} {v:Value},SH.le S S' →p S v→p S' v

structure Rp(α:Type) where
 sz:Nat
 agg:Bool
 rc:SH→List Value→α→Prop
 mono: ∀{S S' :SH} {cs:List Value} {x:α},SH.le S S' →rc S cs x→rc S' cs x
 len: ∀{S:SH} {cs:List Value} {x:α},rc S cs x→cs.length=sz
 one: ∀{S:SH} {cs:List Value} {x:α},rc S cs x→ ∀c∈cs,c.oneCell' =true
 sc:agg=false→sz=1

def Rp.val{α:Type}(r:Rp α)(cs:List Value):Value:=if r.agg then .agg cs.toArray else cs.headD undef

def tD{α:Type}(r:Rp α)(x:α):Ty where
 p:=fun S v=> ∃cs,v=r.val cs∧r.rc S cs x
 mono:=fun h ⟨cs,e,k⟩=>⟨cs,e,r.mono h k⟩

def Af:Ty where
 p:=fun _ _=>True
 mono:=fun _ _=>trivial

def tV(u:Value):Ty where
 p:=fun _ v=>v=u
 mono:=fun _ h=>h

def rI(k:IntKind):Rp Int where
 sz:=1
 agg:=false
 rc:=fun _ cs x=>cs=[.int k x]
 mono:=fun _ h=>h
 len:=fun h=>by rw [h];rfl
 one:=fun h c hc=>by subst h;simp at hc;subst hc;rfl
 sc:=fun _=>rfl

def rB:Rp Bool where
 sz:=1
 agg:=false
 rc:=fun _ cs x=>cs=[.bool x]
 mono:=fun _ h=>h
 len:=fun h=>by rw [h];rfl
 one:=fun h c hc=>by subst h;simp at hc;subst hc;rfl
 sc:=fun _=>rfl

abbrev jb:=List UInt8
def rS:Rp jb where
 sz:=1
 agg:=false
 rc:=fun _ cs x=>cs=[.string ⟨x.toArray⟩]
 mono:=fun _ h=>h
 len:=fun h=>by rw [h];rfl
 one:=fun h c hc=>by subst h;simp at hc;subst hc;rfl
 sc:=fun _=>rfl

variable{cs:List Value}{v:Value}
theorem fe{k:IntKind}{n:Int}:(tD (rI k) n).p S v↔v= .int k n:=by
 constructor
 ·rintro⟨cs,rfl,h⟩;have h' :cs=[.int k n]:=h;subst h';rfl
 ·rintro rfl;exact⟨[.int k n],rfl,rfl⟩
theorem ju:(tD rB b).p S v↔v= .bool b:=by
 constructor
 ·rintro⟨cs,rfl,h⟩;have h' :cs=[.bool b]:=h;subst h';rfl
 ·rintro rfl;exact⟨[.bool b],rfl,rfl⟩
variable{α:Type}{s:Sem α}
theorem vX{s:jb}:(tD rS s).p S v↔v= .string ⟨s.toArray⟩:=by
 constructor
 ·rintro⟨cs,rfl,h⟩;have h' :cs=[.string ⟨s.toArray⟩]:=h;subst h';rfl
 ·rintro rfl;exact⟨[.string ⟨s.toArray⟩],rfl,rfl⟩

def vt{α:Type}(r:Rp α)(S:SH):List Value→List α→Prop
 |cs,[]=>cs=[]
 |cs,x::xs=> ∃a b,cs=a++b∧r.rc S a x∧vt r S b xs
variable{a:Act}{xs:List α}
theorem ss{α:Type}{r:Rp α}{S S' :SH}(h:SH.le S S'): ∀{xs:List α} {cs:List Value},vt r S cs xs→vt r S' cs xs
 |[],_,k=>k
 |_::_,_,⟨a,b,e,h1,h2⟩=>⟨a,b,e,r.mono h h1,ss h h2⟩
variable{x:Operand}
theorem n8{α:Type}{r:Rp α}{S:SH}: ∀{xs:List α} {cs:List Value},vt r S cs xs→cs.length=xs.length*r.sz
 |[],_,k=>by rw [show _=_ from k];simp
 |x::xs,_,⟨a,b,e,h1,h2⟩=>by rw [e,lw,r.len h1,n8 h2,iR,w7];omega
theorem CZ{α:Type}{r:Rp α}{S:SH}: ∀{xs:List α} {cs:List Value},vt r S cs xs→ ∀c∈cs,c.oneCell' =true
 |[],_,k,c,hc=>by rw [show _=_ from k]at hc;cases hc
 |x::xs,_,⟨a,b,e,h1,h2⟩,c,hc=>by
  rw [e]at hc
  rcases wT.1 hc with h|h
  ·exact r.one h1 c h
  ·exact CZ h2 c h
variable{ys:List α}
theorem wj{α:Type}{r:Rp α}{S:SH}: ∀{xs ys:List α} {cs ds:List Value},vt r S cs xs→vt r S ds ys→vt r S (cs++ds) (xs++ys)
 |[],_,_,_,k,h=>by rw [show _=_ from k];exact h
 |_::_,_,_,_,⟨a,b,e,h1,h2⟩,h=>⟨a,_,by rw [e,iS],h1,wj h2 h⟩
theorem rj{α:Type}{r:Rp α}{S:SH}: ∀{xs ys:List α} {cs:List Value},vt r S cs (xs++ys)→
  vt r S (cs.take (xs.length*r.sz)) xs∧vt r S (cs.drop (xs.length*r.sz)) ys
 |[],_,_,k=>by simp [vt];exact k
 |x::xs,ys,cs,⟨a,b,e,h1,h2⟩=>by
  have hl:=r.len h1
  have ih:=rj h2
  have e1:(x::xs).length*r.sz=a.length+xs.length*r.sz:=by rw [hl,iR,w7];omega
  rw [e,e1,List.take_length_add_append,List.drop_length_add_append]
  exact⟨⟨a,_,rfl,h1,ih.1⟩,ih.2⟩
theorem J8{r:Rp α}{x:α}:vt r S cs [x]↔r.rc S cs x:=by
 constructor
 ·rintro⟨a,b,rfl,h,hb⟩
  rw [show b=[]from hb,zU];exact h
 ·intro h;exact⟨cs,[],by simp,h,rfl⟩
variable{i:Nat}
theorem C0{r:Rp α}(h:vt r S cs xs){x:α}(hx:xs[i]? =some x):
  r.rc S ((cs.drop (i*r.sz)).take r.sz) x:=by
 have hi:i<xs.length:=(qW.1 hx).1
 have e:xs=xs.take i++(x::xs.drop (i+1)):=by
  have:=qW.1 hx
  rw [←this.2,←r0 hi,vb]
 have hl:(xs.take i).length=i:=by simp;omega
 rw [e]at h
 have h2:=(rj h).2
 rw [hl]at h2
 obtain⟨a,b,e2,h3,_⟩:=h2
 rw [e2,←r.len h3,List.take_left]
 exact h3

def Fq{α:Type}(r:Rp α)(S:SH)(a:Option Addr)(xs:List α):Prop:=
 xs=[]∨ ∃b off c E fr,a=some ⟨b,off,none⟩∧S b=some (.cells c E fr)∧vt r S ((c.toList.drop off).take (xs.length*r.sz)) xs
def fH{α:Type}(r:Rp α):Rp (List α) where
 sz:=1
 agg:=false
 rc:=fun S cs xs=> ∃a cap,cs=[.slice a xs.length cap]∧xs.length≤cap∧cap≤maxLen∧Fq r S a xs
 mono:=fun h ⟨a,cap,e,h1,h2,h3⟩=>⟨a,cap,e,h1,h2,h3.imp id fun⟨b,off,c,E,fr,e1,e2,e3⟩=>by
  obtain⟨o',h4,h5⟩:=h _ _ e2
  obtain⟨c',rfl,h6⟩:=D3 h5 (n8 e3)
  exact⟨b,off,c',E,fr,e1,h4,by rw [h6];exact ss h e3⟩⟩
 len:=fun⟨a,cap,e,_⟩=>by rw [e];rfl
 one:=fun⟨a,cap,e,_⟩ c hc=>by rw [e]at hc;simp at hc;subst hc;rfl
 sc:=fun _=>rfl
variable{cap:Nat}
theorem n6{r:Rp α}:(tD (fH r) xs).p S v↔ ∃a cap,v= .slice a xs.length cap∧xs.length≤cap∧cap≤maxLen∧Fq r S a xs:=by
 constructor
 ·rintro⟨cs,rfl,a,cap,rfl,h⟩;exact⟨a,cap,rfl,h⟩
 ·rintro⟨a,cap,rfl,h⟩;exact⟨_,rfl,a,cap,rfl,h⟩
theorem GA{r:Rp α}:(tD (fH r) []).p S (.slice none 0 0):=n6.2 ⟨none,0,rfl,eW _,iP _,.inl rfl⟩

def bt{α:Type}(r:Rp α)(x:α):Ty where
 p:=fun S v=> ∃b off c E fr,v= .pointer (some ⟨b,off,none⟩)∧S b=some (.cells c E fr)∧r.rc S ((c.toList.drop off).take r.sz) x
 mono:=fun h ⟨b,off,c,E,fr,e1,e2,e3⟩=>by
  obtain⟨o',h4,h5⟩:=h _ _ e2
  obtain⟨c',rfl,h6⟩:=D3 h5 (r.len e3)
  exact⟨b,off,c',E,fr,e1,h4,by rw [h6];exact r.mono h e3⟩

def glob:List (Nat×List Value):=[(0,[.string ⟨([98,111,111,108]:List UInt8).toArray⟩,.int .i64 (1),.string ⟨([105,110,116]:List UInt8).toArray⟩,.int .i64 (2),.string ⟨([116,101,120,116]:List UInt8).toArray⟩,.int .i64 (3)]),(1,[.string ⟨([83,69,76,69,67,84]:List UInt8).toArray⟩,.string ⟨([68,73,83,84,73,78,67,84]:List UInt8).toArray⟩,.string ⟨([70,82,79,77]:List UInt8).toArray⟩,.string ⟨([76,69,70,84]:List UInt8).toArray⟩,.string ⟨([74,79,73,78]:List UInt8).toArray⟩,.string ⟨([79,78]:List UInt8).toArray⟩,.string ⟨([87,72,69,82,69]:List UInt8).toArray⟩,.string ⟨([71,82,79,85,80]:List UInt8).toArray⟩,.string ⟨([66,89]:List UInt8).toArray⟩,.string ⟨([72,65,86,73,78,71]:List UInt8).toArray⟩,.string ⟨([85,78,73,79,78]:List UInt8).toArray⟩,.string ⟨([65,76,76]:List UInt8).toArray⟩,.string ⟨([79,82,68,69,82]:List UInt8).toArray⟩,.string ⟨([76,73,77,73,84]:List UInt8).toArray⟩,.string ⟨([65,83,67]:List UInt8).toArray⟩,.string ⟨([68,69,83,67]:List UInt8).toArray⟩,.string ⟨([65,83]:List UInt8).toArray⟩,.string ⟨([65,78,68]:List UInt8).toArray⟩,.string ⟨([79,82]:List UInt8).toArray⟩,.string ⟨([78,79,84]:List UInt8).toArray⟩,.string ⟨([73,83]:List UInt8).toArray⟩,.string ⟨([78,85,76,76]:List UInt8).toArray⟩,.string ⟨([84,82,85,69]:List UInt8).toArray⟩,.string ⟨([70,65,76,83,69]:List UInt8).toArray⟩,.string ⟨([67,79,85,78,84]:List UInt8).toArray⟩,.string ⟨([83,85,77]:List UInt8).toArray⟩,.string ⟨([77,73,78]:List UInt8).toArray⟩,.string ⟨([77,65,88]:List UInt8).toArray⟩])]
def MD(w:World):Prop:=Lib.CaseVar 2 Lib.caseA w∧Lib.Utf8Tabs 4 5 w
structure jU(w:World)(S:SH):Prop where
 at_: ∀b o,S b=some o→ ∃o',w.heap[b]? =some o' ∧ES o o'
 gl: ∀p∈glob,∃c T fr,S p.1=some (.cells c T fr)∧c.toList.take p.2.length=p.2
 tb: ∀w' :World,(∀b o,S b=some o→ ∃o',w'.heap[b]? =some o' ∧ES o o')→MD w'
instance{w:World}{S:SH}:CoeFun (jU w S) (fun _=> ∀b o,S b=some o→ ∃o',w.heap[b]? =some o' ∧ES o o'):=⟨jU.at_⟩
variable{w:World}
theorem jU.tab(h:jU w S):MD w:=h.tb w h.at_
theorem jU.lt(h:jU w S){b:Nat}{o:Obj}(k:S b=some o):b<w.heap.size:=let⟨_,h1,_⟩:=h b o k;(vd.1 h1).1
theorem jU.part(h:jU w S){b:Nat}{c:Array Value}{E:TypeId}(k:S b=some (.cells c E fr)){n:Nat}(hl:((c.toList.drop off).take n).length=n):
  ∃c',w.heap[b]? =some (.cells c' E fr)∧(c'.toList.drop off).take n=(c.toList.drop off).take n:=by
 obtain⟨o',h1,h2⟩:=h b _ k
 obtain⟨c',rfl,h3⟩:=D3 h2 hl
 exact⟨c',h1,h3⟩
variable{w' :World}
theorem jU.same(h:jU w S)(k: ∀b o,S b=some o→w'.heap[b]? =w.heap[b]?):jU w' S:=⟨fun b o e=>by rw [k b o e];exact h b o e,h.gl,h.tb⟩

def qq:Nat→Prop:=fun _=>False
structure gW(B:Nat→Prop)(w:World)(S:SH)(w' :World)(S' :SH):Prop where
 os:w'.os=w.os
 tape:w'.tape=w.tape
 output:w'.output=w.output
 drawn:w.drawn≤w'.drawn
 size:w.heap.size≤w'.heap.size
 heap: ∀k,k<w.heap.size→ ¬B k→w'.heap[k]? =w.heap[k]?
 keep:SH.le S S'
 old: ∀k,k<w.heap.size→ ¬B k→S' k=S k
theorem gF(B:Nat→Prop)(w:World)(S:SH):gW B w S w S:=⟨rfl,rfl,rfl,eW _,eW _,fun _ _ _=>rfl,SH.le_refl _,fun _ _ _=>rfl⟩
variable{w'' :World}
theorem gW.trans{B:Nat→Prop}(h:gW B w S w' S')(k:gW B w' S' w'' S''):gW B w S w'' S'' :=
 ⟨k.os.trans h.os,k.tape.trans h.tape,k.output.trans h.output,nf h.drawn k.drawn,nf h.size k.size,
  fun i hi hb=>(k.heap i (wU hi h.size) hb).trans (h.heap i hi hb),SH.le_trans h.keep k.keep,
  fun i hi hb=>(k.old i (wU hi h.size) hb).trans (h.old i hi hb)⟩
variable{C:Nat→Prop}
theorem gW.step{B:Nat→Prop}(h:gW B w S w' S')(k:gW C w' S' w'' S'')(hC: ∀b,C b→w.heap.size≤b∨B b):gW B w S w'' S'' :=
 ⟨k.os.trans h.os,k.tape.trans h.tape,k.output.trans h.output,nf h.drawn k.drawn,nf h.size k.size,
  fun i hi hb=>(k.heap i (wU hi h.size) (fun hc=>(hC i hc).elim (fun h=>by omega) hb)).trans (h.heap i hi hb),SH.le_trans h.keep k.keep,
  fun i hi hb=>(k.old i (wU hi h.size) (fun hc=>(hC i hc).elim (fun h=>by omega) hb)).trans (h.old i hi hb)⟩
theorem gW.more{B:Nat→Prop}(h:gW B w S w' S')(k: ∀b,B b→C b):gW C w S w' S' :=
 ⟨h.os,h.tape,h.output,h.drawn,h.size,fun i hi hb=>h.heap i hi (fun h=>hb (k i h)),h.keep,fun i hi hb=>h.old i hi (fun h=>hb (k i h))⟩
theorem gW.step0{B:Nat→Prop}(h:gW B w S w' S')(k:gW qq w' S' w'' S''):gW B w S w'' S'' :=h.step k fun _ hb=>hb.elim

structure OE where
 fp:Nat→Prop
 p:World→SH→Prop
 here: ∀{w S},p w S→ ∀k,fp k→k<w.heap.size
 kept: ∀{C w w' S S'},p w S→gW C w S w' S' →(∀k,fp k→ ¬C k)→p w' S'
def OE.holds(e:OE)(base:Nat)(B:Nat→Prop)(w:World)(S:SH):Prop:=e.p w S∧ ∀k,e.fp k→base≤k∨B k
def OE.apart(e f:OE):Prop:= ∀b,e.fp b→ ¬f.fp b
def du(base:Nat)(B:Nat→Prop)(w:World)(S:SH):List OE→Prop
 |[]=>True
 |e::O=>e.holds base B w S∧(∀f∈O,e.apart f)∧du base B w S O
theorem Hz{e:OE}{base:Nat}{B:Nat→Prop}(h:e.holds base B w S)(k:gW C w S w' S')(hC: ∀b,e.fp b→ ¬C b):e.holds base B w' S' :=⟨e.kept h.1 k hC,h.2⟩
variable{O:List OE}{f:FuncId}
theorem du.ext{base:Nat}{B:Nat→Prop}(k:gW C w S w' S'): ∀{O:List OE},du base B w S O→(∀e∈O,∀b,e.fp b→ ¬C b)→du base B w' S' O
 |[],_,_=>trivial
 |e::_,⟨h1,h2,h3⟩,hC=>⟨Hz h1 k (hC e (iA ..)),h2,du.ext k h3 fun f hf=>hC f (pS _ hf)⟩
theorem du.ext0{base:Nat}{B:Nat→Prop}(k:gW qq w S w' S')(h:du base B w S O):du base B w' S' O:=
 h.ext k fun _ _ _ _ hb=>hb
theorem du.mem{base:Nat}{B:Nat→Prop}: ∀{O:List OE},du base B w S O→ ∀e∈O,e.holds base B w S
 |_::_,⟨h1,_,_⟩,_,.head _=>h1
 |_::_,⟨_,_,h3⟩,_,.tail _ hm=>du.mem h3 _ hm

abbrev mz:=List (Nat×Ty)
def look:mz→Nat→Option Ty
 |[],_=>none
 |(k,t)::G,j=>bif Nat.beq k j then some t else look G j
structure Fr where
 n:Nat
 ds:List Deferred
structure dr(N:Fr)(S:SH)(a:Act)(G:mz):Prop where
 size:a.tmps.size=N.n
 defers:a.defers=N.ds
 at_: ∀k t,look G k=some t→t.p S (a.tmps.getD k undef)
variable{G:mz}{j:Nat}{t:Ty}
theorem dr.mono{N:Fr}(h:dr N S a G)(k:SH.le S S'):dr N S' a G:=⟨h.size,h.defers,fun j t e=>t.mono k (h.at_ j t e)⟩
theorem dr.sub{N:Fr}{G' :mz}(h:dr N S a G)(k: ∀j t,look G' j=some t→look G j=some t):dr N S a G' :=⟨h.size,h.defers,fun j t e=>h.at_ j t (k j t e)⟩
variable{u:OE}
theorem dr.put{N:Fr}(h:dr N S a G)(hd:Nat.blt d N.n=true)(hv:t.p S v):dr N S (a.put (some d) v) ((d,t)::G):=by
 have hd' :d<N.n:=by simpa [u9] using hd
 refine⟨by simp [Act.put,h.size],h.defers,fun j u e=>?_⟩
 unfold look at e
 by_cases hj:d=j
 ·subst hj
  have e' :t=u:=by simpa using e
  rw [e']at hv
  simp [Act.put,Gv,h.size,hd',hv]
 ·have hb:Nat.beq d j=false:=by cases hh:Nat.beq d j with
   |false=>rfl
   |true=>exact absurd (pj hh) hj
  rw [hb]at e
  have:=h.at_ j u e
  simpa [Act.put,Gv,Array.getElem?_setIfInBounds,hj] using this
def JV:mz→mz→Prop
 |[],_=>True
 |(k,t)::G',G=>look G k=some t∧JV G' G
theorem Fp: ∀{G' G:mz},JV G' G→ ∀j t,look G' j=some t→look G j=some t
 |(k,t)::G',G,⟨h1,h2⟩,j,u,e=>by
  unfold look at e
  by_cases hb:Nat.beq k j=true
  ·rw [hb]at e
   have:=pj hb
   subst this
   simp only [cond_true]at e
   rw [←e];exact h1
  ·rw [zW]at hb
   rw [hb]at e
   exact Fp h2 j u e

def aZ(N:Fr)(G:mz)(x:Operand)(t:Ty):Prop:= ∀S a,dr N S a G→t.p S (a.eval x)
theorem ht{N:Fr}(h:look G k=some t):aZ N G (.tmp k) t:=fun _ _ hF=>hF.at_ k t h
theorem hI{N:Fr}{k:IntKind}{n:Int}:aZ N G (.const (.int k n)) (tD (rI k) n):=fun _ _ _=>fe.2 rfl
theorem hB{N:Fr}:aZ N G (.const (.bool b)) (tD rB b):=fun _ _ _=>ju.2 rfl
theorem hS{N:Fr}{s:Array UInt8}:aZ N G (.const (.string ⟨s⟩)) (tD rS s.toList):=fun _ _ _=>vX.2 rfl
theorem jr{N:Fr}{r:Rp α}:aZ N G (.const (.slice none 0 0)) (tD (fH r) []):=fun _ _ _=>GA
theorem hV{N:Fr}:aZ N G (.const v) (tV v):=fun _ _ _=>rfl

variable{R:Ending→World→Prop}{args:α→List Ty}{bytes:Nat}{done:Array Bool}{es:Array Event}{g:Option (Nat×Bool)}{gs:Nat}{l:Option Nat}{m m' :Machine}{ops:Array Oper}{q:Bool}{rest:List Oper}
section
variable{P:Program}
def wOf{α:Type}:Result α→World
 | .ok _ w=>w
 | .halt _ w=>w
theorem G4(w:World)(a:Addr)(n:Nat):(w.freeze a n).drawn=w.drawn:=by unfold World.freeze;split<;>rfl
theorem CF{at_:Addr}{u:TypeId}{k:Addr}{x:Bool}{r:World×List Addr}(h:w.viewStore P at_ u k v x= .ok r):r.1.drawn=w.drawn:=by
 unfold World.viewStore at h
 simp only [bind,Except.bind,pure,Except.pure,throw,throwThe,MonadExceptOf.throw]at h
 repeat' (split at h)
 all_goals first
  |(cases h;done)
  |(cases h;rfl)
theorem Ei{a:Addr}{x:Bool}{r:World×List Addr}(h:w.farStore P a v x= .ok r):r.1.drawn=w.drawn:=by
 unfold World.farStore at h
 split at h
 ·split at h
  ·rename_i h2;cases h;exact CF h2
  ·cases h
 ·cases h
theorem BM{α:Type}: ∀(a:Ask α) (w:World),w.drawn≤(w.ask a).2.drawn
 | .done a,w=>eW _
 | .ask what range k,w=>by
  unfold World.ask
  simp only
  split
  ·exact BM (k 0) w
  ·exact nf (Nat.le_succ _) (BM (k ((Question.extern what range).cut (w.tape w.drawn (Question.extern what range)))) {w with drawn:=w.drawn+1})
theorem ME(w:World)(c:Sys):w.drawn≤(w.sys c).2.drawn:=by
 unfold World.sys
 have h:=BM (Kernel.perform c w.os) w
 split
 ·exact eW _
 ·rename_i h2
  rw [h2]at h
  exact h
theorem iD{α:Type}: ∀(s:Sem α) (w:World),w.drawn≤(wOf (s.run P w)).drawn
 | .pure a,w=>eW _
 | .load m a k,w=>by
  unfold Sem.run
  split
  ·exact iD _ w
  ·split
   ·exact iD _ w
   ·exact eW _
 | .store m a v k,w=>by
  have key:w.drawn≤(wOf (match w.cell? a with
   |some _=>if w.frozen? a then .halt (.unsupported (.unsafePointer "a write to bytes that a string shares")) w else k.run P (w.setCell a v)
   |none=>match w.farStore P a v (m== .atomic)with
    | .ok (w,_)=>k.run P w
    | .error h=> .halt h w)).drawn:=by
   split
   ·split
    ·exact eW _
    ·exact iD k (w.setCell a v)
   ·split
    ·rename_i w' l h
     have:=iD k w'
     rw [show w'.drawn=w.drawn from Ei h]at this
     exact this
    ·exact eW _
  cases v<;>first|exact eW _|(simp only [Sem.run];exact key)
 | .new o k,w=>iD (k w.heap.size) {w with heap:=w.heap.push o}
 | .shape r k,w=>iD (k (w.shape? r)) w
 | .freeze a n k,w=>by
  have:=iD k (w.freeze a n)
  rw [G4]at this
  exact this
 | .frozen a k,w=>iD (k (w.frozen? a)) w
 | .getObj r k,w=>by
  unfold Sem.run
  split
  ·exact eW _
  ·exact iD _ w
  ·exact eW _
 | .setObj r o k,w=>by
  unfold Sem.run
  split
  ·exact eW _
  ·exact iD k {w with heap:=w.heap.setIfInBounds r o}
  ·exact eW _
 | .choose q k,w=>by
  unfold Sem.run
  split
  ·exact iD (k 0) w
  ·exact nf (Nat.le_succ _) (iD (k (q.cut (w.tape w.drawn q))) {w with drawn:=w.drawn+1})
 | .sys c k,w=>by
  exact nf (ME w c) (iD (k (w.sys c).1) (w.sys c).2)
 | .program k,w=>iD (k P) w
 | .mark m k,w=>iD k w
 | .halt h,w=>eW _
theorem dk{x:α}(h:s.run P w= .ok x w'):w.drawn≤w'.drawn:=by
 have:=iD (P:=P) s w
 rw [h]at this
 exact this
theorem oJ{x:Halt}(h:s.run P w= .halt x w'):w.drawn≤w'.drawn:=by
 have:=iD (P:=P) s w
 rw [h]at this
 exact this
theorem Na{x:α}{es' :Array Event}(h:s.runT P w es=(.ok x w',es')):w.drawn≤w'.drawn:=
 dk (P:=P) (s:=s) (x:=x) (by rw [←BX P s w es,h])
theorem IX{x:Halt}{es' :Array Event}(h:s.runT P w es=(.halt x w',es')):w.drawn≤w'.drawn:=
 oJ (P:=P) (s:=s) (x:=x) (by rw [←BX P s w es,h])
theorem CE{rest:Rest}{cases:Array CommCase}(h:waitingAt rest cases w=some w'):w'.drawn=w.drawn:=by
 unfold waitingAt at h
 repeat' (split at h)
 all_goals (cases h;try rfl)
theorem AV(rest:Rest)(gs:Array Goroutine)(i:Nat)(g:Goroutine)(cases:Array CommCase)(blocking:Bool)
  (shape:CommShape)(w:World)(m' :Machine)(h:(communicate P rest gs i g cases blocking shape w).1= .next m'):w.drawn≤m'.world.drawn:=by
 unfold communicate at h
 simp only []at h
 repeat' first
  |(simp at h;done)
  |(simp only [zX]at h;subst h;(try dsimp only);exact eW _)
  |(simp only [zX]at h;subst h;(try dsimp only);exact dk (by assumption))
  |(simp only [zX]at h;subst h;(try dsimp only);exact yR (CE (by assumption)).symm)
  |(simp only [zX]at h;subst h;(try dsimp only);exact nf (dk (by assumption)) (dk (by assumption)))
  |(simp only [zX]at h;subst h;(try dsimp only);exact nf (dk (by assumption)) (oJ (by assumption)))
  |split at h
theorem D7(gs:Array Goroutine)(rest:Rest)(w:World)(m' :Machine)
  (h:Go.look P gs rest w= .next m'):w.drawn≤m'.world.drawn:=by
 unfold Go.look at h
 simp only []at h
 repeat' first
  |(simp at h;done)
  |(simp only [zX]at h;subst h;(try dsimp only);exact dk (by assumption))
  |split at h
def C4(d:Nat):GStep→Prop
 | .go _ w _=>d≤w.drawn
 | .comm _ _ _ _ w _=>d≤w.drawn
 | .spawn _ _ w _=>d≤w.drawn
 | .count _ w _=>d≤w.drawn
 | .timer _ _ w _=>d≤w.drawn
 | .alone _ _ w _=>d≤w.drawn
 | .newcoro _ _ _ w _=>d≤w.drawn
 | .coroswitch _ _ _ w _=>d≤w.drawn
 | .collect _ w _=>d≤w.drawn
 | .watch _ w _=>d≤w.drawn
 | .ended _ _ _=>True
theorem rp{s:GStep}(h:C4 d s):C4 d (s.after es):=by cases s<;>exact h
theorem uh{e:Nat}{s:GStep}(h:C4 d s)(k:e≤d):C4 e s:=by
 cases s<;>first|exact nf k h|trivial
theorem KB(d:Nat)(w:World)(fd:Nat)(text:ByteArray)(o:Outcome):C4 d (endWith w fd text o):=by
 unfold endWith
 repeat' split
 all_goals trivial
theorem PR(fr:Frame)(gJ:List ByteArray)(m:String)(whole:Bool)(w:World):C4 w.drawn (dieOf fr gJ m whole w):=eW _
theorem u4(fr:Frame)(m:String)(w:World):C4 w.drawn (endThrow fr m w):=eW _
theorem xR(fr:Frame)(v:Value)(w:World):C4 w.drawn (endPrinting P fr v w):=by
 unfold endPrinting
 simp only []
 split
 ·exact eW _
 ·trivial
theorem Cq(fr:Frame)(callers:List Frame)(dying:Option Dying)(m:String)(w:World):C4 w.drawn (endFatal P fr callers dying m w):=by
 unfold endFatal
 simp only []
 split
 ·exact uh (PR _ _ _ _ _) (dk (by assumption))
 ·trivial
 ·trivial
theorem JL(fr:Frame)(d:Dying)(f:Fatal)(w:World):C4 w.drawn (writeOn P fr d f w):=by
 unfold writeOn
 simp only []
 split
 ·trivial
 ·split
  ·exact Na (by assumption)
  ·exact IX (by assumption)
  ·trivial
  ·trivial
theorem Vc(fr:Frame)(d:Dying)(w:World):C4 w.drawn (die P fr d w):=by
 unfold die
 simp only []
 split
 ·exact JL _ _ _ _
 ·split
  ·split
   ·exact eW _
   ·exact KB _ _ _ _ _
  ·split
   ·exact eW _
   ·split
    ·exact dk (by assumption)
    ·trivial
   ·apply rp
    split
    ·exact dk (P:=P) (by rw [←BX];assumption)
    ·exact dk (P:=P) (by rw [←BX];assumption)
    ·trivial
    ·exact uh (xR _ _ _) (oJ (P:=P) (by rw [←BX];assumption))
    ·trivial
   ·trivial
theorem rl{x:α}(h:(s.runT P w es).1= .ok x w'):w.drawn≤w'.drawn:=dk (P:=P) (s:=s) (x:=x) (by rw [←BX P s w es,h])
theorem uV{x:Halt}(h:(s.runT P w es).1= .halt x w'):w.drawn≤w'.drawn:=oJ (P:=P) (s:=s) (x:=x) (by rw [←BX P s w es,h])
theorem xS(main:Bool)(fr:Frame)(callers:List Frame)(dying:Option Dying)(v:Value)(w:World):C4 w.drawn (doReturn P main fr callers dying v w):=by
 unfold doReturn
 simp only []
 repeat' split
 all_goals first|exact eW _|trivial
theorem GZ{c:Prop} [Decidable c]{a b:GStep}(ha:C4 d a)(hb:C4 d b):C4 d (if c then a else b):=by split<;>assumption
theorem CS(fr:Frame)(callers:List Frame)(dying:Option Dying)(d:Deferred)(w:World):C4 w.drawn (callDeferred P fr callers dying d w):=by
 unfold callDeferred
 simp only []
 refine GZ trivial (rp ?_)
 split
 all_goals first
  |exact rl (by assumption)
  |exact uV (by assumption)
  |trivial
  |exact uh (Cq _ _ _ _ _) (uV (by assumption))
  |exact uh (u4 _ _ _) (uV (by assumption))
  |(split<;>exact rl (by assumption))
theorem Mz(main:Bool)(fr:Frame)(callers:List Frame)(dying:Option Dying)(w:World):C4 w.drawn (unwind P main fr callers dying w):=by
 unfold unwind
 simp only []
 split
 ·apply rp
  split
  ·exact rl (by assumption)
  ·trivial
 ·exact CS _ _ _ _ _
 ·split
  ·trivial
  ·split
   ·trivial
   ·split
    ·exact eW _
    ·split
     ·split
      ·exact eW _
      ·split
       ·exact dk (by assumption)
       ·trivial
       ·trivial
     ·split
      ·exact xR _ _ _
      ·trivial
  ·split
   ·exact xS _ _ _ _ _ _
   ·apply rp
    split
    ·exact uh (xS _ _ _ _ _ _) (rl (by assumption))
    ·trivial
    ·trivial
theorem PO(fr:Frame)(callers:List Frame)(dying:Option Dying)(g:Nat)(w:World):C4 w.drawn (early P fr callers dying g w):=by
 have hn: ∀w1:World,w.drawn≤w1.drawn→C4 w.drawn (match w1.heap[g]? with
   |some (.pending c elem)=> .go {frame:=fr,callers,status:= .running,dying} {w1 with heap:=w1.heap.setIfInBounds g (.cells c elem)}
   |_=> .ended (.stuck "early: the variable does not wait" (fr.pos P)) w1):=fun w1 h=>by
  split
  ·exact h
  ·trivial
 unfold early
 simp only []
 repeat' first
  |trivial
  |exact hn _ (eW _)
  |exact eW _
  |exact hn _ (dk (by assumption))
  |exact dk (P:=P) (by assumption)
  |split
theorem xV(main:Bool)(listen:Bool)(fr:Frame)(callers:List Frame)(dying:Option Dying)(s:Sem Next)(w:World):C4 w.drawn (stepG.apply P listen fr callers dying s w):=by
  unfold stepG.apply
  simp only []
  apply rp
  have hr:(if listen=true then s.runT P w #[]else(s.run P w,#[])).1=s.run P w:=by
    split
    · exact BX _ _ _ _
    · rfl
  rw [hr]
  split
  all_goals first
    |exact dk (by assumption)
    |exact oJ (by assumption)
    |trivial
    |exact uh (Cq _ _ _ _ _) (oJ (by assumption))
    |exact uh (u4 _ _ _) (oJ (by assumption))
    |exact uh (PO _ _ _ _ _) (oJ (by assumption))
    | (repeat' split
       all_goals first
        |exact dk (by assumption)
        |exact uh (u4 _ _ _) (dk (by assumption)))
theorem QO(main listen:Bool)(fr:Frame)(callers:List Frame)(dying:Option Dying)(w:World):C4 w.drawn (stepG.oper P listen fr callers dying w):=by
 unfold stepG.oper
 split
 ·trivial
 ·split
  ·exact xV main _ _ _ _ _ _
  ·exact xV main _ _ _ _ _ _
theorem Sh(main listen:Bool)(fr:Frame)(callers:List Frame)(dying:Option Dying)(w:World):C4 w.drawn (stepG.exec P main listen fr callers dying w):=by
 have leave: ∀(c:Prop) (_:Decidable c) (jump:Option Code),C4 w.drawn (match fr.roundOf with
   |none=>if c then GStep.go {frame:={fr with mode:= .returning},callers,status:= .running,dying} w else .ended (.stuck "exit, goto: no such block or label" (fr.pos P)) w
   |some l=>GStep.after (seen P fr.fn ((Instr.endRound l jump).runT P w #[]).2) (match ((Instr.endRound l jump).runT P w #[]).1 with
    | .ok v w=>doReturn P main fr callers dying v w
    | .halt _ w=> .ended (.stuck "range over a function: no such loop" (fr.pos P)) w)):=fun c _ jump=>by
  split
  ·exact GZ (eW _) trivial
  ·apply rp
   split
   ·exact uh (xS _ _ _ _ _ _) (rl (by assumption))
   ·trivial
 unfold stepG.exec
 simp only []
 split
 all_goals first
  |exact leave _ _ _
  |exact eW _
  |exact xV main _ _ _ _ _ _
  |trivial
  |(split<;>first|exact eW _|trivial)
  |(cases h:exitTo _ _<;>first|exact eW _|exact leave _ _ _)
  |(cases h:gotoIn _ _<;>first|exact eW _|exact leave _ _ _)
  |(cases h:Extern.next _<;>first|trivial|exact xV main _ _ _ _ _ _)
  |(apply rp;split<;>first|trivial|exact rl (by assumption)|exact uV (by assumption)|exact uh (xV main _ _ _ _ _ _) (rl (by assumption)))
  |(refine GZ (eW _) ?_;split<;>first|trivial|exact dk (by assumption))
  |(refine GZ ?_ (eW _);exact QO main _ _ _ _ _)
  |skip
theorem Ov(main listen:Bool)(g:Goroutine)(w:World):C4 w.drawn (stepG P main g w listen):=by
 unfold stepG
 simp only []
 split
 ·exact Vc _ _ _
 ·exact Sh _ _ _ _ _ _
 ·exact Mz _ _ _ _ _
theorem EK{op:TimerOp}(h:timerOp m op= .ok (v,m')):m.world.drawn≤m'.world.drawn:=by
 have hr: ∀(m0:Machine) (k:Nat) (t:Timer) (when_ period:Nat),(retime m0 k t when_ period).2.world.drawn=m0.world.drawn:=fun m0 k t a b=>by
  unfold retime drain
  cases t.chan with
  |none=>rfl
  |some c=>simp only [];split<;>rfl
 have ho: ∀{var:Addr} {m0:Machine},timerOp.opened m var=some m0→m0.world.drawn=m.world.drawn:=fun{var m0} h=>by
  unfold timerOp.opened at h
  repeat' (split at h)
  all_goals (cases h;try rfl)
 have hn: ∀{var:Addr} {m0:Machine} {f:Nat→Timer→Value×Machine} {r:Value×Machine},timerOp.named m0 var f= .ok r→ ∃k t,r=f k t:=fun{var m0 f r} h=>by
  unfold timerOp.named at h
  split at h
  ·cases h;exact⟨_,_,rfl⟩
  ·cases h
 unfold timerOp at h
 split at h
 ·repeat' (split at h)
  all_goals first
   |(cases h;exact eW _)
   |(cases h;done)
 ·obtain⟨k,t,e⟩:=hn h
  rw [show m' =(retime m k t 0 t.period).2 from congrArg Prod.snd e,hr]
  exact eW _
 ·split at h
  ·rename_i m0 hm0
   obtain⟨k,t,e⟩:=hn h
   rw [show m' =(retime m0 k t _ _).2 from congrArg Prod.snd e,hr,ho hm0]
   exact eW _
  ·cases h
 ·simp only [Except.ok.injEq,Prod.mk.injEq]at h
  rw [←h.2]
  exact eW _
theorem I7{fr:Frame}{m:String}{g:Goroutine}(h:endThrow fr m w= .go g w' es):w.drawn≤w'.drawn:=by
 have:=u4 fr m w
 rw [h]at this
 exact this
theorem J4(m m' :Machine)(i:Nat)(b:Bool)(h:(runT P m i b).1= .next m'):m.world.drawn≤m'.world.drawn:=by
  simp only [runT]at h
  revert h
  generalize m.gs.swapAt! _ _=gg
  have hs:=Ov (P:=P) (i==0) b gg.1 m.world
  revert hs
  generalize stepG P _ gg.1 m.world b=s
  intro hs h
  cases s<;>simp only []at h
  all_goals first
    |(simp at h;done)
    |exact nf hs (AV _ _ _ _ _ _ _ _ _ h)
    |exact nf hs (D7 _ _ _ _ h)
    |(simp only [zX]at h;subst h;exact hs)
    |(repeat' first
        |(simp at h;done)
        |(simp only [zX]at h;subst h;exact hs)
        |(simp only [zX]at h;subst h;exact nf hs (EK (by assumption)))
        |(simp only [zX]at h;subst h;exact nf hs (I7 (by assumption)))
        |split at h)
theorem H8(m m' :Machine)(k:Nat)(h:serve P m k= .next m'):m.world.drawn≤m'.world.drawn:=by
 unfold serve at h
 simp only []at h
 repeat' first
  |(simp at h;done)
  |(simp only [zX]at h;subst h;exact eW _)
  |split at h
theorem Ji(m m' :Machine)(ops:Array MemOp)(h:askOn P m= .machine (.next m') ops):m.world.drawn≤m'.world.drawn:=by
 unfold askOn at h
 simp only []at h
 repeat' first
  |(simp at h;done)
  |(simp only [Move.machine.injEq]at h;exact nf (dk (by assumption)) (H8 _ _ _ h.1))
  |(simp only [Move.machine.injEq,zX]at h;obtain⟨rfl,_⟩:=h;(try simp only [Machine.advanceTo]);exact dk (by assumption))
  |(simp only [Move.machine.injEq,zX]at h;obtain⟨rfl,_⟩:=h;(try simp only [Machine.advanceTo]);exact nf (dk (by assumption)) (dk (by assumption)))
  |split at h
theorem FQ{gs:Array Goroutine}{rest:Rest}{t:Nat}{x:α}(h:s.run P (Machine.advanceTo {world:=w,gs:=gs,rest:=rest} t).world= .ok x w'):w.drawn≤w'.drawn:=by
 have:=dk h
 simpa only [Machine.advanceTo] using this
theorem Hs(m m' :Machine)(i:Nat)(h:askOn P m= .goroutine m' i):m.world.drawn≤m'.world.drawn:=by
  unfold askOn at h
  simp only []at h
  repeat' first
    |(simp at h;done)
    |(simp only [Move.goroutine.injEq]at h;rw [←h.1];(try simp only [Machine.advanceTo]);first
        |exact dk (by assumption)
        |exact nf (dk (by assumption)) (dk (by assumption))
        |exact nf (dk (by assumption)) (nf (dk (by assumption)) (dk (by assumption)))
        |exact nf (dk (by assumption)) (nf (dk (by assumption)) (nf (dk (by assumption)) (dk (by assumption))))
        |exact nf (dk (by assumption)) (nf (dk (by assumption)) (FQ (by assumption)))
        |exact nf (dk (by assumption)) (nf (dk (by assumption)) (nf (FQ (by assumption)) (dk (by assumption)))))
    |split at h
theorem Er(m:Machine):(∃m₂:Machine,m.world.drawn≤m₂.world.drawn∧ask P m=askOn P m₂)∨(∃o w,ask P m= .machine (.ended o w) #[]):=by
 unfold ask
 by_cases hw:m.rest.watch=true
 ·rw [bS hw]
  cases hc:(choose (.extern "collector.look" 2)).run P m.world with
  |halt h w=>exact .inr ⟨_,_,rfl⟩
  |ok k world=>
   have e1:=dk hc
   rcases k with _|_|k
   ·exact .inl ⟨{m with world},e1,rfl⟩
   ·show(∃m₂:Machine,m.world.drawn≤m₂.world.drawn∧(match Go.look P m.gs m.rest world with| .next m=>askOn P m|e=>Move.machine e)=askOn P m₂)∨
     (∃o w,(match Go.look P m.gs m.rest world with| .next m=>askOn P m|e=>Move.machine e)= .machine (.ended o w) #[])
    cases hl:Go.look P m.gs m.rest world with
    |next m₂=>exact .inl ⟨m₂,nf e1 (D7 _ _ _ _ hl),rfl⟩
    |ended o w=>exact .inr ⟨o,w,rfl⟩
   ·exact .inl ⟨{m with world},e1,rfl⟩
 ·simp only [hw,mA,ji]
  exact .inl ⟨m,eW _,rfl⟩
theorem Kn(m m' :Machine)(ops:Array MemOp)(h:move P m= .machine (.next m') ops):m.world.drawn≤m'.world.drawn:=by
 have ha: ∀m1:Machine,m1.world.drawn=m.world.drawn→ask P m1= .machine (.next m') ops→m.world.drawn≤m'.world.drawn:=fun m1 e h=>by
  rcases Er (P:=P) m1 with⟨m₂,hs,he⟩|⟨o,w,he⟩
  ·rw [he]at h;rw [←e];exact nf hs (Ji m₂ m' ops h)
  ·rw [he]at h;simp at h
 unfold move at h
 repeat' first
  |(simp at h;done)
  |(refine ha _ ?_ h;rfl)
  |split at h
theorem IG(m m' :Machine)(i:Nat)(h:move P m= .goroutine m' i):m.world.drawn≤m'.world.drawn:=by
 have ha: ∀m1:Machine,m1.world.drawn=m.world.drawn→ask P m1= .goroutine m' i→m.world.drawn≤m'.world.drawn:=fun m1 e h=>by
  rcases Er (P:=P) m1 with⟨m₂,hs,he⟩|⟨o,w,he⟩
  ·rw [he]at h;rw [←e];exact nf hs (Hs m₂ m' i h)
  ·rw [he]at h;cases h
 unfold move at h
 repeat' first
  |(simp at h;done)
  |(refine ha _ ?_ h;rfl)
  |(simp only [Move.goroutine.injEq]at h;rw [←h.1];exact eW _)
  |split at h
theorem JW(h:step P m= .next m'):m.world.drawn≤m'.world.drawn:=by
 simp only [step,stepT]at h
 split at h
 ·rename_i m₁ i hm
  exact nf (IG m m₁ i hm) (J4 m₁ m' i _ h)
 ·rename_i s ops hm
  simp only []at h
  subst h
  exact Kn m m' ops hm
theorem B6(h:Steps P m m'):m.world.drawn≤m'.world.drawn:=by
 obtain⟨n,hn⟩:=h
 induction n generalizing m with
 |zero=>simp only [runN,zX]at hn;rw [hn];exact eW _
 |succ n ih=>
  simp only [runN]at hn
  split at hn
  ·rename_i m1 h1
   exact nf (JW h1) (ih hn)
  ·rename_i hx
   exact absurd hn (hx _)
theorem Jg{args:Array Value}(h:Calls P f args w R)(ho: ∀w',¬R .outgrown w'):Calls P f args w fun e w' =>R e w' ∧w.drawn≤w'.drawn:=fun cs=>by
 obtain⟨e,w',fr,hr,hc,h2⟩:=h cs
 refine⟨e,w',fr,⟨hr,?_⟩,hc,h2⟩
 cases e with
 |outgrown=>exact absurd hr (ho w')
 |returned v=>exact B6 (show Steps P _ _ from hc)
 |panicked c=>exact B6 (show Steps P _ _ from hc)
end

def fw(r:Option Nat):Fence:={fn:=fun _=>True,depth:=none,alive:=false,round:=r}
theorem lj{r:Option Nat}{n:Nat}{P:Program}{args:Array Value}:CallsIn (fw r) n P f args w R↔Calls P f args w R:=callsIn_wide
theorem IY{r:Option Nat}{n:Nat}:(fw r).depth.isSome=true→1≤n:=fun h=>by cases h
structure En where
 P:Program
 N:Fr
 B:Nat→Prop
 w0:World
 S0:SH
 r:Option Nat
def En.base(E:En):Nat:=E.w0.heap.size

def TQ(P:Program)(o:Oper)(a:Act)(K:Act→World→Prop):Result Next→Prop
 | .ok (.value v) w' =>K (a.put o.dst v) w'
 | .ok .skip w' =>K (a.put o.dst undef) w'
 | .ok (.enter f args) w' =>Calls P f args w' fun e w'' => ∃v,e= .returned v∧K (a.put o.dst v) w''
 | .ok (.round l f tmps assign body) w' =>RoundIn (fw none) 0 P l f tmps assign body w' fun e w'' => ∃v,e= .returned v∧K (a.put o.dst v) w''
 |_=>False
def Iy(P:Program)(o:Oper)(a:Act)(w:World)(K:Act→World→Prop):Prop:=(∀c,o.op≠ .defer c)∧TQ P o a K ((execOp a.eval o).run P w)
theorem J5{r:Option Nat}{n:Nat}{P:Program}{l:Nat}{tmps:Array Value}{assign body:Code}(h:RoundIn (fw none) 0 P l f tmps assign body w R):RoundIn (fw r) n P l f tmps assign body w R:=
 ⟨trivial,fun c cs _=>h.2 c cs (fun _ hd=>by cases hd)⟩
variable{K K' :Act→World→Prop}
theorem OK{P:Program}(hK: ∀a w,K a w→K' a w){r:Result Next}(h:TQ P o a K r):TQ P o a K' r:=by
 cases r with
 |ok n w=>
  cases n<;>simp only [TQ]at h ⊢
  case value=>exact hK _ _ h
  case skip=>exact hK _ _ h
  case enter f args=>exact h.mono fun e w' ⟨v,he,hk⟩=>⟨v,he,hK _ _ hk⟩
  case round l f tmps assign body=>exact h.mono fun e w' ⟨v,he,hk⟩=>⟨v,he,hK _ _ hk⟩
 |halt x w=>simp only [TQ]at h
theorem o5{P:Program}(hK: ∀a w,K a w→K' a w)(h:Iy P o a w K):Iy P o a w K' :=⟨h.1,OK hK h.2⟩
variable{Q:Exit→Act→World→Prop}{β:Type}{res:β→Ty}
theorem lJ{P:Program}{r:Option Nat}(hK: ∀a w,K a w→K' a w)(h:Iy P o a w K):o.wpIn (fw r) 0 P a w K' Q:=by
 obtain⟨hd,h⟩:=h
 refine⟨fun _ _=>trivial,?_⟩
 rw [Oper.semAt_eq _ _ _ hd]
 generalize (execOp a.eval o).run P w=res at h
 cases res with
 |ok n w=>
  cases n<;>simp only [TQ]at h<;>simp only [Oper.uponIn]
  case value=>exact hK _ _ h
  case skip=>exact hK _ _ h
  case enter f args=>exact⟨IY,lj.2 (h.mono fun e w' ⟨v,he,hk⟩=>by subst he;exact hK _ _ hk)⟩
  case round l f tmps assign body=>exact⟨IY,(J5 h).mono fun e w' ⟨v,he,hk⟩=>by subst he;exact hK _ _ hk⟩
 |halt x w=>simp only [TQ]at h

def cH(E:En)(O:List OE)(G:mz)(o:Oper)(t:Ty):Prop:=
 ∀a w S,jU w S→du E.base E.B w S O→dr E.N S a G→
  Iy E.P o a w (fun a' w' => ∃v S',a' =a.put o.dst v∧gW qq w S w' S' ∧jU w' S' ∧t.p S' v)
structure St(E:En)(O:List OE)(G:mz)(a:Act)(w:World)(S:SH):Prop where
 ext:gW E.B E.w0 E.S0 w S
 sat:jU w S
 own:du E.base E.B w S O
 facts:dr E.N S a G
def RG(E:En)(ops:Array Oper)(Q:Exit→Act→World→Prop)(l:List Oper)(O:List OE)(G:mz):Prop:= ∀a w S,St E O G a w S→wpListIn (fw E.r) 0 E.P ops Q l a w
def CG(E:En)(Q:Exit→Act→World→Prop)(c:Code)(O:List OE)(G:mz):Prop:= ∀a w S,St E O G a w S→c.wpIn (fw E.r) 0 E.P Q a w
def AT(E:En)(Q:Exit→Act→World→Prop)(e:Exit)(O:List OE)(G:mz):Prop:= ∀a w S,St E O G a w S→Q e a w

variable{after:Array Edge}{fn:Func}{pos:String}{ts:List Ty}{y:Operand}
section
variable{E:En}{G' :mz}{l:List Oper}
theorem St.step(h:St E O G a w S)(k:gW qq w S w' S')(hs:jU w' S')(hd:Nat.blt d E.N.n=true)(hv:t.p S' v):
  St E O ((d,t)::G) (a.put (some d) v) w' S' :=
 ⟨h.ext.step0 k,hs,h.own.ext0 k,(h.facts.mono k.keep).put hd hv⟩
theorem St.sub(h:St E O G a w S)(k:JV G' G):St E O G' a w S:=⟨h.ext,h.sat,h.own,h.facts.sub (Fp k)⟩
theorem RG.of(hg:o.guard=none)(h: ∀a w S,St E O G a w S→Iy E.P o a w (fun a' w' =>wpListIn (fw E.r) 0 E.P ops Q l a' w')):RG E ops Q (o::l) O G:=fun a w S st=>
 wpListIn_plain hg fun _ hK=>lJ hK (h a w S st)

theorem u6{op:Op}{ty:TypeId}(h:cH E O G ⟨some d,op,ty,pos,after,none⟩ t)(hd:Nat.blt d E.N.n=true)(k:RG E ops Q l O ((d,t)::G)):
  RG E ops Q (⟨some d,op,ty,pos,after,none⟩::l) O G:= .of rfl fun a w S st=>
 o5 (fun a' w' ⟨_,_,ha,he,hs,hv⟩=>by subst ha;exact k _ _ _ (st.step he hs hd hv)) (h a w S st.sat st.own st.facts)
theorem aJ(h:AT E Q .normal O G):RG E ops Q [] O G:=fun a w S st=>h a w S st
theorem am{id:Nat}{l:List Oper}(h:RG E l.toArray Q l O G):CG E Q (.region id l.toArray false) O G:=fun a w S st=>wpIn_region_lit (h a w S st)
theorem ac{x y:Code}(h:CG E (Exit.then (y.wpIn (fw E.r) 0 E.P Q) Q) x O G):CG E Q (.seq x y) O G:=fun a w S st=>wpIn_seq (h a w S st)
theorem aq{y:Code}(h:CG E Q y O G):AT E (Exit.then (y.wpIn (fw E.r) 0 E.P Q) Q) .normal O G:=h
theorem bk(h:AT E Q .normal O G):CG E Q .skip O G:=fun a w S st=>wpIn_skip (h a w S st)
theorem bp{id:Nat}(h:AT E Q (.exit id) O G):CG E Q (.exit id) O G:=fun a w S st=>wpIn_exit (h a w S st)
theorem ak(h:AT E Q .ret O G):CG E Q .ret O G:=fun a w S st=>wpIn_ret (h a w S st)
theorem EE(h:CG E Q c O G')(k:JV G' G):CG E Q c O G:=fun a w S st=>h a w S (st.sub k)
theorem bJ{e:Exit}(h:AT E Q e O G')(k:JV G' G):AT E Q e O G:=fun a w S st=>h a w S (st.sub k)
theorem qT{c:Operand}{x y:Code}(hb:aZ E.N G c (tD rB b))(hx:b=true→CG E Q x O G)(hy:b=false→CG E Q y O G):CG E Q (.cond c x y) O G:=fun a w S st=>by
 have hv:a.eval c= .bool b:=ju.1 (hb S a st.facts)
 refine wpIn_cond hv ?_
 cases b with
 |true=>exact hx rfl a w S st
 |false=>exact hy rfl a w S st
theorem ax{id:Nat}(h:CG E (Exit.inBlock id Q) c O G):CG E Q (.block id c) O G:=fun a w S st=>wpIn_block (h a w S st)
def BB(r:Option Nat)(P:Program)(c:Code)(Q:Exit→Act→World→Prop)(a:Act)(w:World):Prop:=
 ∀(b:Frame) (k:List Item) (cs:List Frame),b.roundOf=r→ ∃e a' w',Q e a' w' ∧ArrivesIn (Machine.fenced P (fw r)) P (lone (b.atR a (.code c:: .inLoop c::k)) cs w) b k cs e a' w'
theorem Lw{r:Option Nat}{n:Nat}:(fw r).room n:=fun _ hd=>by cases hd
theorem Gx{r:Option Nat}{P:Program}{Q:Exit→Act→World→Prop}(h:BB r P c Q a w):(Code.loop c).wpIn (fw r) 0 P Q a w:=fun b k cs hro hb hr=>
 let⟨e,a',w',hq,harr⟩:=h b k cs hro
 ⟨e,a',w',hq,.of_steps (.one (fenced_calm hb hr rfl) stepR_loop) harr⟩
theorem EX{r:Option Nat}{P:Program}{Q:Exit→Act→World→Prop}(h:c.wpIn (fw r) 0 P (Exit.then (BB r P c Q) Q) a w):BB r P c Q a w:=by
 intro b k cs hro
 obtain⟨e,a₁,w₁,hq,harr⟩:=h b (.inLoop c::k) cs hro trivial Lw
 cases e with
 |normal=>
  obtain⟨e₂,a₂,w₂,hq₂,harr₂⟩:=hq b k cs hro
  exact⟨e₂,a₂,w₂,hq₂,.of_steps (StepsIn.trans harr (.one (fenced_calm (n:=0) (F:=fw r) trivial Lw rfl) stepR_inLoop)) harr₂⟩
 |exit id=>exact⟨_,a₁,w₁,hq,.pass (x:= .inLoop c) rfl (fun _ _=> .inl (by simp)) harr⟩
 |goto l=>exact⟨_,a₁,w₁,hq,.pass (x:= .inLoop c) rfl (fun _ _=> .inl (by simp)) harr⟩
 |ret=>exact⟨_,a₁,w₁,hq,.pass (x:= .inLoop c) rfl (fun _ _=> .inl (by simp)) harr⟩
 |panic ch=>exact⟨_,a₁,w₁,hq,.pass (x:= .inLoop c) rfl (fun _ _=> .inl (by simp)) harr⟩
 |outgrown=>exact⟨_,a₁,w₁,hq,.pass (x:= .inLoop c) rfl (fun _ _=> .inl (by simp)) harr⟩
def LG(E:En)(Q:Exit→Act→World→Prop)(c:Code)(O:List OE)(G:mz):Prop:= ∀a w S,St E O G a w S→BB E.r E.P c Q a w
theorem bB(h:LG E Q c O G):CG E Q (.loop c) O G:=fun a w S st=>Gx (h a w S st)
theorem aB(h:CG E (Exit.then (BB E.r E.P c Q) Q) c O G):LG E Q c O G:=fun a w S st=>EX (h a w S st)
theorem aP(h:LG E Q c O G')(k:JV G' G):LG E Q c O G:=fun a w S st=>h a w S (st.sub k)
theorem be(h:LG E Q c O G):AT E (Exit.then (BB E.r E.P c Q) Q) .normal O G:=h
theorem ae{id:Nat}(h:AT E Q (.exit id) O G):AT E (Exit.then K Q) (.exit id) O G:=h
theorem M(h:AT E Q .ret O G):AT E (Exit.then K Q) .ret O G:=h
theorem ay{id:Nat}(h:AT E Q .ret O G):AT E (Exit.inBlock id Q) .ret O G:=h
theorem an{id:Nat}(h:AT E Q .normal O G):AT E (Exit.inBlock id Q) .normal O G:=h
theorem aK{id:Nat}(h:AT E Q .normal O G):AT E (Exit.inBlock id Q) (.exit id) O G:=fun a w S st=>by
 simp only [Exit.inBlock,jW];exact h a w S st
theorem db{id id' :Nat}(hne:Nat.beq id' id=false)(h:AT E Q (.exit id') O G):AT E (Exit.inBlock id Q) (.exit id') O G:=fun a w S st=>by
 have:id' ≠id:=fun e=>by subst e;simp at hne
 simp only [Exit.inBlock,this,ji];exact h a w S st

def wZ(S:SH):List Ty→List Value→Prop
 |[],[]=>True
 |t::ts,v::vs=>t.p S v∧wZ S ts vs
 |_,_=>False
theorem wZ.mono(h:SH.le S S'): ∀{ts:List Ty} {vs:List Value},wZ S ts vs→wZ S' ts vs
 |[],[],_=>trivial
 |t::_,_::_,⟨h1,h2⟩=>⟨t.mono h h1,wZ.mono h h2⟩
theorem wZ.length: ∀{ts:List Ty} {vs:List Value},wZ S ts vs→vs.length=ts.length
 |[],[],_=>rfl
 |_::_,_::_,⟨_,h2⟩=>by simp [wZ.length h2]
def bo(P:Program)(f:FuncId)(ts:List Ty)(t:Ty):Prop:=
 ∀w S vs,jU w S→wZ S ts vs→Calls P f vs.toArray w fun e w' => ∃v S',e= .returned v∧gW qq w S w' S' ∧jU w' S' ∧t.p S' v
def I8(E:En)(t:Ty):Ending→World→Prop:=fun e w' => ∃v S',e= .returned v∧gW E.B E.w0 E.S0 w' S' ∧jU w' S' ∧t.p S' v
def uT(k:Nat):List Ty→mz
 |[]=>[]
 |t::ts=>(k,t)::uT (k+1) ts
theorem D6: ∀(ts:List Ty) (k j:Nat) (t:Ty),look (uT k ts) j=some t→ ∃i,j=k+i∧ts[i]? =some t
 |[],_,_,_,h=>by simp [uT,look]at h
 |u::ts,k,j,t,h=>by
  unfold uT look at h
  by_cases hb:Nat.beq k j=true
  ·rw [hb]at h
   exact⟨0,by rw [pj hb];rfl,by simpa using h⟩
  ·rw [zW]at hb
   rw [hb]at h
   obtain⟨i,h1,h2⟩:=D6 ts (k+1) j t h
   exact⟨i+1,by omega,by simpa using h2⟩
theorem wZ.at_: ∀{ts:List Ty} {vs:List Value} (_:wZ S ts vs) (i:Nat) (t:Ty),ts[i]? =some t→ ∃v,vs[i]? =some v∧t.p S v
 |_::_,v::_,⟨h1,_⟩,0,t,h=>⟨v,rfl,by simp at h;rw [←h];exact h1⟩
 |_::ts,_::vs,⟨_,h2⟩,i+1,t,h=>by simpa using wZ.at_ h2 i t (by simpa using h)
theorem oN{vs:List Value}(h:wZ S ts vs)(n:Nat)(hn:ts.length≤n):
  dr ⟨n,[]⟩ S {tmps:=vs.toArray++Array.replicate (n-vs.toArray.size) undef,defers:=[]} (uT 0 ts):=by
 have hl:=h.length
 refine⟨by simp;omega,rfl,fun j t hj=>?_⟩
 obtain⟨i,e,hi⟩:=D6 ts 0 j t hj
 have e' :j=i:=by omega
 subst e'
 obtain⟨v,hv,ht⟩:=h.at_ j t hi
 have hlt:j<vs.length:=(qW.1 hv).1
 have:(vs.toArray++Array.replicate (n-vs.toArray.size) undef).getD j undef=v:=by
  rw [Gv,Array.getElem?_append_left (by simpa using hlt)]
  simp [hv]
 rw [this];exact ht
theorem Hv{P:Program}(hf:P.funcs[f]? =some fn)(hb:fn.body=some c)(hn:ts.length≤fn.ntmps)(h: ∀w0 S0,CG ⟨P,⟨fn.ntmps,[]⟩,qq,w0,S0,none⟩ (bodyPost P fn (I8 ⟨P,⟨fn.ntmps,[]⟩,qq,w0,S0,none⟩ t)) c [] (uT 0 ts)):bo P f ts t:=by
 intro w S vs hs hv
 exact lj.1 (Dg (F:=fw none) (n:=0) hf hb trivial (h w S _ w S ⟨gF _ _ _,hs,trivial,oN hv _ hn⟩))
theorem lC(P:Program)(fn:Func)(k:Nat)(h:fn.results= #[.tmp k])(tmps:Array Value)(w:World):(results fn tmps).run P w= .ok (tmps.getD k undef) w:=by
 simp [results,h]
theorem aF{P:Program}{N:Nat}{B:Nat→Prop}{w0:World}{S0:SH}(hr:fn.results= #[.tmp k])(hk:look G k=some t):
  AT ⟨P,⟨N,[]⟩,B,w0,S0,none⟩ (bodyPost P fn (I8 ⟨P,⟨N,[]⟩,B,w0,S0,none⟩ t)) .ret O G:=fun _ _ S st=>
 ⟨st.facts.defers,_,lC P fn k hr _ _,_,S,rfl,st.ext,st.sat,st.facts.at_ k t hk⟩
def tT(ts:List Ty):Ty where
 p:=fun S v=> ∃vs,v= .tuple vs.toArray∧wZ S ts vs
 mono:=fun h k=>by obtain⟨vs,e,k⟩:=k;exact⟨vs,e,wZ.mono h k⟩
theorem CH(P:Program)(fn:Func)(j k:Nat)(h:fn.results= #[.tmp j,.tmp k])(tmps:Array Value)(w:World):(results fn tmps).run P w= .ok (.tuple #[tmps.getD j undef,tmps.getD k undef]) w:=by
 simp [results,h]
theorem co{P:Program}{N:Nat}{B:Nat→Prop}{w0:World}{S0:SH}{u:Ty}(hr:fn.results= #[.tmp j,.tmp k])(hj:look G j=some t)(hk:look G k=some u):
  AT ⟨P,⟨N,[]⟩,B,w0,S0,none⟩ (bodyPost P fn (I8 ⟨P,⟨N,[]⟩,B,w0,S0,none⟩ (tT [t,u]))) .ret O G:=fun _ _ S st=>
 ⟨st.facts.defers,_,CH P fn j k hr _ _,_,S,rfl,st.ext,st.sat,[_,_],rfl,st.facts.at_ j t hj,st.facts.at_ k u hk,trivial⟩
theorem Am(P:Program)(fn:Func)(i j k:Nat)(h:fn.results= #[.tmp i,.tmp j,.tmp k])(tmps:Array Value)(w:World):(results fn tmps).run P w= .ok (.tuple #[tmps.getD i undef,tmps.getD j undef,tmps.getD k undef]) w:=by
 simp [results,h]
theorem wI{P:Program}{N:Nat}{B:Nat→Prop}{w0:World}{S0:SH}{s u:Ty}(hr:fn.results= #[.tmp i,.tmp j,.tmp k])(hi:look G i=some s)(hj:look G j=some t)(hk:look G k=some u):
  AT ⟨P,⟨N,[]⟩,B,w0,S0,none⟩ (bodyPost P fn (I8 ⟨P,⟨N,[]⟩,B,w0,S0,none⟩ (tT [s,t,u]))) .ret O G:=fun _ _ S st=>
 ⟨st.facts.defers,_,Am P fn i j k hr _ _,_,S,rfl,st.ext,st.sat,[_,_,_],rfl,st.facts.at_ i s hi,st.facts.at_ j t hj,st.facts.at_ k u hk,trivial⟩
theorem vz(P:Program)(fn:Func)(h:fn.results= #[])(tmps:Array Value)(w:World):(results fn tmps).run P w= .ok (.tuple #[]) w:=by
 simp [results,h]
end

variable{dst:Option Tmp}{xt yt:TypeId}
section
variable{E:En}{ty:TypeId}
theorem cH.of_run(h: ∀a w S,jU w S→du E.base E.B w S O→dr E.N S a G→
  ∃v w' S',(execOp a.eval o).run E.P w= .ok (.value v) w' ∧gW qq w S w' S' ∧jU w' S' ∧t.p S' v)(hd: ∀c,o.op≠ .defer c:=by intro c h;cases h):cH E O G o t:=fun a w S hs ho hf=>by
 obtain⟨v,w',S',hr,he,hs',hv⟩:=h a w S hs ho hf
 refine⟨hd,?_⟩
 rw [hr]
 exact⟨v,S',rfl,he,hs',hv⟩
theorem cH.of_pure(h: ∀a w S,jU w S→du E.base E.B w S O→dr E.N S a G→ ∃v,(execOp a.eval o).run E.P w= .ok (.value v) w∧t.p S v)(hd: ∀c,o.op≠ .defer c:=by intro c h;cases h):cH E O G o t:=
 .of_run (fun a w S hs ho hf=>let⟨v,hr,hv⟩:=h a w S hs ho hf;⟨v,w,S,hr,gF _ _ _,hs,hv⟩) hd

theorem bQ(hx:aZ E.N G x t):cH E O G ⟨dst,.move x,ty,pos,after,g⟩ t:=
 .of_pure fun a _ S _ _ hf=>⟨a.eval x,rfl,hx S a hf⟩
theorem aU(hx:aZ E.N G x t):cH E O G ⟨dst,.assign x,ty,pos,after,g⟩ t:=
 .of_pure fun a _ S _ _ hf=>⟨a.eval x,rfl,hx S a hf⟩
theorem yq{c:Operand}(hc:aZ E.N G c (tD rB b))(hx:b=true→aZ E.N G x t)(hy:b=false→aZ E.N G y t):cH E O G ⟨dst,.pick c x y,ty,pos,after,g⟩ t:=
 .of_pure fun a _ S _ _ hf=>by
  have h1:a.eval c= .bool b:=ju.1 (hc S a hf)
  refine⟨if b then a.eval x else a.eval y,by simp [execOp,h1,asBool],?_⟩
  cases b with
  |true=>exact hx rfl S a hf
  |false=>exact hy rfl S a hf

section
variable{k:IntKind}{m n:Int}
theorem I5{P:Program}{op:BinOp}{xt:TypeId}{x y:Operand}{k k' :IntKind}{m n:Int}:(eqGuard op xt x y (.int k m) (.int k' n)).run P w= .ok () w:=by
 unfold eqGuard
 cases op<;>rfl
theorem xH{op:BinOp}(hx:aZ E.N G x (tD (rI k) m))(hy:aZ E.N G y (tD (rI k) n))(hv: ∀P w,(binOp op xt (.int k m) (.int k n)).run P w= .ok v w)(ht: ∀S,t.p S v):
  cH E O G ⟨dst,.binOp op xt x y yt,ty,pos,after,g⟩ t:=
 .of_pure fun a w S _ _ hf=>by
  have h1:a.eval x= .int k m:=fe.1 (hx S a hf)
  have h2:a.eval y= .int k n:=fe.1 (hy S a hf)
  refine⟨v,?_,ht S⟩
  simp [execOp,h1,h2,I5,hv]
theorem ei(hx:aZ E.N G x (tD (rI k) m))(hy:aZ E.N G y (tD (rI k) n)):cH E O G ⟨dst,.binOp .add xt x y yt,ty,pos,after,g⟩ (tD (rI k) (k.wrap (m+n))):=
 xH hx hy (fun _ _=>by simp [binOp,Op.intArith]) (fun _=>fe.2 rfl)
theorem dL(hx:aZ E.N G x (tD (rI k) m))(hy:aZ E.N G y (tD (rI k) n)):cH E O G ⟨dst,.binOp .sub xt x y yt,ty,pos,after,g⟩ (tD (rI k) (k.wrap (m-n))):=
 xH hx hy (fun _ _=>by simp [binOp,Op.intArith]) (fun _=>fe.2 rfl)
theorem eO(hx:aZ E.N G x (tD (rI k) m))(hy:aZ E.N G y (tD (rI k) n)):cH E O G ⟨dst,.binOp .lss xt x y yt,ty,pos,after,g⟩ (tD rB (decide (m<n))):=
 xH hx hy (fun _ _=>by simp [binOp,Op.intCmp]) (fun _=>ju.2 rfl)
theorem g9(hx:aZ E.N G x (tD (rI k) m))(hy:aZ E.N G y (tD (rI k) n)):cH E O G ⟨dst,.binOp .leq xt x y yt,ty,pos,after,g⟩ (tD rB (decide (m≤n))):=
 xH hx hy (fun _ _=>by simp [binOp,Op.intCmp]) (fun _=>ju.2 rfl)
theorem d5(hx:aZ E.N G x (tD (rI k) m))(hy:aZ E.N G y (tD (rI k) n)):cH E O G ⟨dst,.binOp .gtr xt x y yt,ty,pos,after,g⟩ (tD rB (decide (n<m))):=
 xH hx hy (fun _ _=>by simp [binOp,Op.intCmp]) (fun _=>ju.2 rfl)
theorem cU(hx:aZ E.N G x (tD (rI k) m))(hy:aZ E.N G y (tD (rI k) n)):cH E O G ⟨dst,.binOp .geq xt x y yt,ty,pos,after,g⟩ (tD rB (decide (n≤m))):=
 xH hx hy (fun _ _=>by simp [binOp,Op.intCmp]) (fun _=>ju.2 rfl)
theorem cw(hx:aZ E.N G x (tD (rI k) m))(hy:aZ E.N G y (tD (rI k) n)):cH E O G ⟨dst,.binOp .eql xt x y yt,ty,pos,after,g⟩ (tD rB (m==n)):=
 xH hx hy (fun _ _=>by simp [binOp,Op.intCmp]) (fun _=>ju.2 rfl)
theorem cF(hx:aZ E.N G x (tD (rI k) m))(hy:aZ E.N G y (tD (rI k) n)):cH E O G ⟨dst,.binOp .neq xt x y yt,ty,pos,after,g⟩ (tD rB (m !=n)):=
 xH hx hy (fun _ _=>by simp [binOp,Op.intCmp]) (fun _=>ju.2 rfl)
theorem TT(hx:aZ E.N G x (tD (rI k) m)):cH E O G ⟨dst,.unOp .neg xt x,ty,pos,after,g⟩ (tD (rI k) (k.wrap (0-m))):=
 .of_pure fun a w S _ _ hf=>by
  have h1:a.eval x= .int k m:=fe.1 (hx S a hf)
  exact⟨.int k (k.wrap (0-m)),by simp [execOp,h1,Op.unary,Op.intArith],fe.2 rfl⟩
theorem dh(hx:aZ E.N G x (tD rB b)):cH E O G ⟨dst,.unOp .not xt x,ty,pos,after,g⟩ (tD rB (!b)):=
 .of_pure fun a w S _ _ hf=>by
  have h1:a.eval x= .bool b:=ju.1 (hx S a hf)
  exact⟨.bool (!b),by simp [execOp,h1,Op.unary],ju.2 rfl⟩
theorem QS{st dt:TypeId}{k' :IntKind}{d:TypeDesc}(hs:E.P.underlying st=some d)(hd:E.P.underlying dt=some (.int k'))(hx:aZ E.N G x (tD (rI k) m)):
  cH E O G ⟨dst,.convert st dt x,ty,pos,after,g⟩ (tD (rI k') (k'.wrap m)):=
 .of_pure fun a w S _ _ hf=>by
  have h1:a.eval x= .int k m:=fe.1 (hx S a hf)
  refine⟨.int k' (k'.wrap m),?_,fe.2 rfl⟩
  simp only [execOp,h1,convert,qV,kH hs,kH hd,rY]
  cases d<;>simp [Conv.intToInt]
end

theorem Bt{P:Program}{t:TypeId}(ht:P.underlying t=some .bool)(d:Nat)(b c:Bool)(w:World):(Op.equalIn (d+1) t (.bool b) (.bool c)).run P w= .ok (b==c) w:=by
 simp [Op.equalIn,kH ht]
theorem CY{P:Program}{t:TypeId}{x y:Value}(hb: ∀d,(Op.equalIn (d+1) t x y).run P w= .ok b w):(Op.equal t x y).run P w= .ok b w:=hb 9999
section
theorem Ln{c:Bool}(ht:E.P.underlying xt=some .bool)(hx:aZ E.N G x (tD rB b))(hy:aZ E.N G y (tD rB c)):cH E O G ⟨dst,.binOp .neq xt x y yt,ty,pos,after,g⟩ (tD rB (b !=c)):=
 .of_pure fun a w S _ _ hf=>by
  have h1:a.eval x= .bool b:=ju.1 (hx S a hf)
  have h2:a.eval y= .bool c:=ju.1 (hy S a hf)
  exact⟨.bool (b !=c),by simp [execOp,h1,h2,eqGuard,binOp,CY (fun d=>Bt ht d b c w)];cases b<;>cases c<;>rfl,ju.2 rfl⟩
theorem OL{op:BinOp}{s u:jb}(hx:aZ E.N G x (tD rS s))(hy:aZ E.N G y (tD rS u))(hv: ∀P w,(Op.stringOp op ⟨s.toArray⟩ ⟨u.toArray⟩).run P w= .ok (.bool b) w)(hg: ∀P w,(eqGuard op xt x y (.string ⟨s.toArray⟩) (.string ⟨u.toArray⟩)).run P w= .ok () w)(hb: ∀P w,(binOp op xt (.string ⟨s.toArray⟩) (.string ⟨u.toArray⟩)).run P w=(Op.stringOp op ⟨s.toArray⟩ ⟨u.toArray⟩).run P w):
  cH E O G ⟨dst,.binOp op xt x y yt,ty,pos,after,g⟩ (tD rB b):=
 .of_pure fun a w S _ _ hf=>by
  have h1:a.eval x= .string ⟨s.toArray⟩:=vX.1 (hx S a hf)
  have h2:a.eval y= .string ⟨u.toArray⟩:=vX.1 (hy S a hf)
  refine⟨.bool b,?_,ju.2 rfl⟩
  simp [execOp,h1,h2,hg,hb,hv]
theorem qI{s u:jb}(hx:aZ E.N G x (tD rS s))(hy:aZ E.N G y (tD rS u)):cH E O G ⟨dst,.binOp .eql xt x y yt,ty,pos,after,g⟩ (tD rB (s==u)):=
 OL hx hy (fun _ _=>by simp [Op.stringOp]) (fun _ _=>rfl) (fun _ _=>rfl)
theorem QQ{s u:jb}(hx:aZ E.N G x (tD rS s))(hy:aZ E.N G y (tD rS u)):cH E O G ⟨dst,.binOp .neq xt x y yt,ty,pos,after,g⟩ (tD rB (!(s==u))):=
 OL hx hy (fun _ _=>by simp [Op.stringOp]) (fun _ _=>rfl) (fun _ _=>rfl)
end
end

def O8:TypeDesc→Bool
 | .struct _| .array _ _=>true
 |_=>false
structure TI(P:Program)(T:TypeId)(sz bytes:Nat)(agg:Bool)(z:List Value):Prop where
 info:(P.info? T).map (fun i=>(i.zero.map (·.cells.toList),i.size,i.bytes))=some (some z,sz,bytes)
 ag:(P.underlying T).map O8=some agg
variable{T:TypeId}{z:List Value}
section
variable{P:Program}{sz:Nat}{agg:Bool}
theorem TI.get(h:TI P T sz bytes agg z): ∃i zv,P.info? T=some i∧i.size=sz∧i.bytes=bytes∧i.zero=some zv∧zv.cells=z.toArray:=by
 have:=h.info
 cases hi:P.info? T with
 |none=>rw [hi]at this;simp at this
 |some i=>
  rw [hi]at this
  simp only [E9,HH,Prod.mk.injEq,zZ]at this
  obtain⟨⟨zv,h1,h2⟩,h3,h4⟩:=this
  exact⟨i,zv,rfl,h3,h4,h1,by rw [←h2]⟩
theorem TI.sizeOf(h:TI P T sz bytes agg z)(w:World):(Go.sizeOf T).run P w= .ok sz w:=by
 obtain⟨i,zv,h1,h2,_⟩:=h.get
 simp [Go.sizeOf,typeInfo,h1,h2]
theorem TI.isAgg(h:TI P T sz bytes agg z)(w:World):(Go.isAgg T).run P w= .ok agg w:=by
 have:=h.ag
 cases hi:P.underlying T with
 |none=>rw [hi]at this;simp at this
 |some d=>
  rw [hi]at this
  simp only [E9,HH]at this
  simp only [Go.isAgg,qV,kH hi,rY]
  rw [←this]
  cases d<;>simp [O8]
theorem TI.zero(h:TI P T sz bytes agg z)(w:World): ∃zv,(zeroValue T).run P w= .ok zv w∧zv.cells=z.toArray:=by
 obtain⟨i,zv,h1,_,_,h4,h5⟩:=h.get
 exact⟨zv,by simp [zeroValue,typeInfo,h1,h4],h5⟩
end

theorem jS(b off i:Nat):(⟨b,off,none⟩:Addr).add i=⟨b,off+i,none⟩:=by
 unfold Addr.add
 split
 ·simp_all
 ·rfl
theorem AX{b:Nat}{c:Array Value}(h:w.heap[b]? =some (.cells c T fr))(i:Nat):w.cell? ⟨b,i,none⟩=c[i]? :=by
 simp [World.cell?,h]
theorem vA{P:Program}{b n:Nat}{c:Array Value}(h:w.heap[b]? =some (.cells c T fr))(hcs:(c.toList.drop off).take n=cs)(hl:cs.length=n):
  (loadCells ⟨b,off,none⟩ n).run P w= .ok cs.toArray w:=by
 rw [←hl]
 refine run_loadCells_list w ⟨b,off,none⟩ cs fun j v hv=>?_
 rw [jS,AX h]
 have hj:j<cs.length:=(qW.1 hv).1
 rw [←hcs,Bg (by omega),xb]at hv
 simpa using hv
theorem la{P:Program}{b:Nat}{c:Array Value}{U:TypeId}{sz:Nat}{agg:Bool}(ti:TI P U sz bytes agg z)(h:w.heap[b]? =some (.cells c T fr)){r:Rp α}(hsz:r.sz=sz)(hag:r.agg=agg){x:α}(hx:r.rc S ((c.toList.drop off).take r.sz) x):
  (loadVar U ⟨b,off,none⟩).run P w= .ok (r.val ((c.toList.drop off).take r.sz)) w:=by
 have hl:=r.len hx
 subst hsz
 subst hag
 simp only [loadVar,qV,ti.isAgg,rY]
 cases ha:r.agg with
 |true=>simp [ti.sizeOf,vA h rfl hl,Rp.val,ha]
 |false=>
  have h1:=r.sc ha
  have hcell:w.cell? ⟨b,off,none⟩=some (((c.toList.drop off).take r.sz).headD undef):=by
   rw [AX h]
   rw [h1]at hl ⊢
   cases hd:c.toList.drop off with
   |nil=>rw [hd]at hl;simp at hl
   |cons v rest=>
    have:(c.toList.drop off)[0]? =some v:=by rw [hd];rfl
    rw [xb]at this
    simpa using this
  simp [hcell,Rp.val,ha]

variable{ats:Array TypeId}
section
variable{E:En}{ty:TypeId}
theorem aI{r:Rp α}{x:α}{U:TypeId}{p:Operand}{sz:Nat}{agg:Bool}(ti:TI E.P U sz bytes agg z)(hsz:r.sz=sz)(hag:r.agg=agg)(hp:aZ E.N G p (bt r x)):
  cH E O G ⟨dst,.load U p,ty,pos,after,g⟩ (tD r x):=
 .of_pure fun a w S hs _ hf=>by
  obtain⟨b,off,c,T,fr,h1,h2,h3⟩:=hp S a hf
  obtain⟨c',h4,h5⟩:=hs.part h2 (r.len h3)
  rw [←h5]at h3
  refine⟨r.val ((c'.toList.drop off).take r.sz),?_,_,rfl,h3⟩
  simp [execOp,h1,Instr.loadAt,Instr.sureAddr,la ti h4 hsz hag h3]

theorem Ma(s:jb):(ByteArray.mk s.toArray).size=s.length:=by simp [ByteArray.size]
theorem bU{r:Rp α}{t:TypeId}(ht:E.P.underlying t=some (.slice e))(hx:aZ E.N G x (tD (fH r) xs)):
  cH E O G ⟨dst,.call ⟨.builtin .len,#[x],#[t]⟩,ty,pos,after,g⟩ (tD (rI .i64) (xs.length:Int)):=
 .of_pure fun a w S _ _ hf=>by
  obtain⟨ad,cap,h1,_⟩:=n6.1 (hx S a hf)
  refine⟨.int .i64 xs.length,?_,fe.2 rfl⟩
  simp [execOp,resolve,invoke,builtin,Builtin.len_,kH ht,h1,goInt]
theorem rP{s:jb}{t:TypeId}(ht:E.P.underlying t=some .string)(hx:aZ E.N G x (tD rS s)):
  cH E O G ⟨dst,.call ⟨.builtin .len,#[x],#[t]⟩,ty,pos,after,g⟩ (tD (rI .i64) (s.length:Int)):=
 .of_pure fun a w S _ _ hf=>by
  have h1:a.eval x= .string ⟨s.toArray⟩:=vX.1 (hx S a hf)
  refine⟨.int .i64 s.length,?_,fe.2 rfl⟩
  simp [execOp,resolve,invoke,builtin,Builtin.len_,kH ht,h1,goInt,Ma]

def dw{α:Type}(xs:List α)(i:Int):Option α:=if 0≤i then xs[i.toNat]? else none
theorem cQ(xs:List α)(i:Nat):dw xs (i:Int)=xs[i]? :=by simp [dw]
theorem MG{r:Rp α}{a:Option Addr}(h:Fq r S a xs){x:α}(hx:xs[i]? =some x):
  ∃b off c T fr,a=some ⟨b,off,none⟩∧S b=some (.cells c T fr)∧r.rc S ((c.toList.drop (off+i*r.sz)).take r.sz) x:=by
 rcases h with rfl|⟨b,off,c,T,fr,e1,e2,e3⟩
 ·simp at hx
 ·refine⟨b,off,c,T,fr,e1,e2,?_⟩
  have h:=C0 e3 hx
  have hi:i<xs.length:=(qW.1 hx).1
  rw [xe,Ba,va]at h
  have:min r.sz (xs.length*r.sz-i*r.sz)=r.sz:=by
   rw [←Nat.sub_mul]
   have:1*r.sz≤(xs.length-i)*r.sz:=CA _ (by omega)
   omega
  rw [this]at h
  exact h
theorem aQ{r:Rp α}{y:α}{ix:Operand}{t:TypeId}{k:IntKind}{i:Int}{sz:Nat}{agg:Bool}(ht:E.P.underlying t=some (.slice e))(ti:TI E.P e sz bytes agg z)(hsz:r.sz=sz)(hx:aZ E.N G x (tD (fH r) xs))(hi:aZ E.N G ix (tD (rI k) i))(hy:dw xs i=some y):
  cH E O G ⟨dst,.indexAddr t x ix,ty,pos,after,g⟩ (bt r y):=
 .of_pure fun a w S _ _ hf=>by
  obtain⟨ad,cap,h1,_,_,h2⟩:=n6.1 (hx S a hf)
  have h3:a.eval ix= .int k i:=fe.1 (hi S a hf)
  have h0:0≤i:=by unfold dw at hy;split at hy;assumption;cases hy
  have hy' :xs[i.toNat]? =some y:=by unfold dw at hy;rw [bS h0]at hy;exact hy
  have hlt:i.toNat<xs.length:=(qW.1 hy').1
  obtain⟨b,off,c,T,fr,e1,e2,e3⟩:=MG h2 hy'
  subst e1
  refine⟨.pointer (some ⟨b,off+i.toNat*r.sz,none⟩),?_,b,_,c,T,fr,rfl,e2,e3⟩
  have hc:0≤i∧i<(xs.length:Int):=⟨h0,by omega⟩
  simp [execOp,h1,h3,Instr.indexAt,asIntOf,kH ht,hc,ti.sizeOf,jS,hsz]

def m9{α β:Type}(r:Rp α)(off:Nat)(q:Rp β)(get:α→β):Prop:= ∀S cs x,r.rc S cs x→q.rc S ((cs.drop off).take q.sz) (get x)
def cB(P:Program)(T:TypeId)(i:Nat):Option (Nat×Nat):=
 match P.underlying T with
 |some (.struct fs)=>(fs[i]?).bind fun f=>(P.info? f.type).map fun q=>(f.offset,q.size)
 |_=>none
theorem Bs{P:Program}{sz:Nat}(h:cB P T i=some (off,sz)): ∃fs f,P.underlying T=some (.struct fs)∧fs[i]? =some f∧f.offset=off∧ ∀w,(sizeOf f.type).run P w= .ok sz w:=by
 unfold cB at h
 split at h
 ·rename_i fs hu
  cases hf:fs[i]? with
  |none=>rw [hf]at h;simp at h
  |some f=>
   rw [hf]at h
   cases hq:P.info? f.type with
   |none=>simp [hq]at h
   |some q=>
    simp [hq]at h
    exact⟨fs,f,hu,hf,h.1,fun w=>by simp [sizeOf,typeInfo,hq,h.2]⟩
 ·cases h
theorem d6{r:Rp α}{q:Rp β}{get:α→β}{x:α}{sz:Nat}{p:Operand}(hf:cB E.P T i=some (off,sz))(h0:Nat.beq sz 0=false)(hq:m9 r off q get)(hoff:Nat.ble (off+q.sz) r.sz=true)(hp:aZ E.N G p (bt r x)):cH E O G ⟨dst,.fieldAddr T p i,ty,pos,after,g⟩ (bt q (get x)):=
 .of_pure fun a w S _ _ hF=>by
  obtain⟨b,o,c,U,fr,h1,h2,h3⟩:=hp S a hF
  obtain⟨fs,f,e1,e2,e3,e4⟩:=Bs hf
  have h0' :sz≠0:=fun e=>by subst e;simp at h0
  have hoff' :off+q.sz≤r.sz:=pT hoff
  refine⟨.pointer (some ⟨b,o+off,none⟩),?_,b,_,c,U,fr,rfl,h2,?_⟩
  ·simp [execOp,h1,Instr.fieldAt,kH e1,e2,Instr.sureAddr,fieldPlace,e4,h0',e3,jS]
  ·have:=hq S _ x h3
   rw [xe,Ba,va,Bc (by omega)]at this
   exact this
def av(P:Program)(f:FuncId):Bool:=
 match P.funcs[f]? with
 |some fn=> !(fn.name== "runtime.NumGoroutine")&&fn.body.isSome
 |none=>false
theorem gL{P:Program}(h:av P f=true)(args:Array Value)(w:World):(callFunc f args).run P w= .ok (.enter f args) w:=by
 unfold av at h
 cases hf:P.funcs[f]? with
 |none=>rw [hf]at h;cases h
 |some fn=>
  rw [hf]at h
  simp only [lH,Be]at h
  have h1:fn.name≠ "runtime.NumGoroutine" :=by simpa using h.1
  have h2:fn.body≠none:=fun e=>by rw [e]at h;simp at h
  simp [callFunc,hf,h1,h2]
def jE(N:Fr)(G:mz):List Operand→List Ty→Prop
 |[],[]=>True
 |x::xs,t::ts=>aZ N G x t∧jE N G xs ts
 |_,_=>False
theorem jE.tys{N:Fr}(hF:dr N S a G): ∀{xs:List Operand} {ts:List Ty},jE N G xs ts→wZ S ts (xs.map a.eval)
 |[],[],_=>trivial
 |_::_,_::_,⟨h1,h2⟩=>⟨h1 S a hF,jE.tys hF h2⟩
theorem aC{xs:List Operand}(hc:av E.P f=true)(hs:bo E.P f ts t)(hx:jE E.N G xs ts):
  cH E O G ⟨dst,.call ⟨.value (.func f),xs.toArray,ats⟩,ty,pos,after,g⟩ t:=fun a w S hS _ hF=>by
 have hr:(execOp a.eval ⟨dst,.call ⟨.value (.func f),xs.toArray,ats⟩,ty,pos,after,g⟩).run E.P w= .ok (.enter f (xs.map a.eval).toArray) w:=by
  simp [execOp,resolve,Act.eval,Deferred.ofValue,invoke,gL hc]
 refine⟨fun c h=>(by cases h),?_⟩
 rw [hr]
 exact(hs w S _ hS (hx.tys hF)).mono fun e w' ⟨v,S',he,h1,h2,h3⟩=>⟨v,he,v,S',rfl,h1,h2,h3⟩
end

theorem nU{o:Obj}(h:k<w.heap.size):(w.alloc o).heap[k]? =w.heap[k]? :=RowKit.Below.heap_alloc w o k h
def SH.set(S:SH)(b:Nat)(o:Obj):SH:=fun k=>if k=b then some o else S k
theorem oO(S:SH)(b:Nat)(o:Obj):S.set b o b=some o:=bS rfl
theorem rx(S:SH){b:Nat}(o:Obj)(h:k≠b):S.set b o k=S k:=bM h
theorem BQ{b:Nat}{o:Obj}(h: ∀q,S b=some q→ES q o):SH.le S (S.set b o):=fun k q hq=>by
 by_cases hk:k=b
 ·subst hk;exact⟨o,oO _ _ _,h q hq⟩
 ·exact⟨q,by rw [rx _ _ hk];exact hq,xG q⟩
theorem jU.set(h:jU w S){b:Nat}{o:Obj}(h1:w.heap[b]? =some o')(h2:ES o o')(h3: ∀q,S b=some q→ES q o):jU w (S.set b o):=by
 refine⟨fun k q hq=>?_,fun p hp=>?_,fun w' hw' =>h.tb w' fun k q hq=>?_⟩
 ·by_cases hk:k=b
  ·subst hk
   rw [oO]at hq
   cases hq
   exact⟨o',h1,h2⟩
  ·rw [rx _ _ hk]at hq;exact h k q hq
 ·obtain⟨c,T,fr,g1,g2⟩:=h.gl p hp
  by_cases hk:p.1=b
  ·subst hk
   obtain⟨d,hd⟩:=h3 _ g1
   refine⟨_,T,fr,by rw [oO,hd],?_⟩
   rw [List.toList_toArray,zg ?_]
   ·exact g2
   ·have:=congrArg List.length g2
    rw [z8]at this
    omega
  ·exact⟨c,T,fr,by rw [rx _ _ hk];exact g1,g2⟩
 ·by_cases hk:k=b
  ·subst hk
   obtain⟨o1,g1,g2⟩:=hw' k o (oO _ _ _)
   exact⟨o1,g1,FJ (h3 q hq) g2⟩
  ·exact hw' k q (by rw [rx _ _ hk];exact hq)
theorem f9(o:Obj)(hs:jU w S):gW qq w S (w.alloc o) S∧jU (w.alloc o) S∧S w.heap.size=none:=by
 refine⟨⟨rfl,rfl,rfl,eW _,by simp,fun k hk _=>nU hk,SH.le_refl _,fun _ _ _=>rfl⟩,hs.same fun b q hb=>nU (hs.lt hb),?_⟩
 cases h:S w.heap.size with
 |none=>rfl
 |some q=>have:=hs.lt h;omega
theorem qS(o:Obj)(hs:jU w S):gW qq w S (w.alloc o) (S.set w.heap.size o)∧jU (w.alloc o) (S.set w.heap.size o):=by
 obtain⟨h1,h2,h3⟩:=f9 o hs
 refine⟨⟨rfl,rfl,rfl,eW _,by simp,fun k hk _=>nU hk,BQ fun q hq=>(by rw [h3]at hq;cases hq),fun k hk _=>rx _ _ (by omega)⟩,h2.set (Cx w o) (xG o) fun q hq=>by rw [h3]at hq;cases hq⟩
theorem xZ(hs:jU w S):gW qq w S w.drew S∧jU w.drew S:=⟨⟨rfl,rfl,rfl,Nat.le_succ _,eW _,fun _ _ _=>rfl,SH.le_refl _,fun _ _ _=>rfl⟩,hs.same fun _ _ _=>rfl⟩

def aV(l:Option Nat)(cap n:Nat):Value:=
 match l with
 |none=> .slice none 0 0
 |some b=> .slice (some ⟨b,0,none⟩) n cap
def ze(w:World)(T:TypeId)(sz:Nat)(l:Option Nat)(cap n:Nat)(cells:List Value):Prop:=
 match l with
 |none=>n=0∧cells=[]
 |some b=> ∃cur,w.heap[b]? =some (.cells cur T (0,0))∧n≤cap∧cap≤maxLen∧cur.size=cap*sz∧cur.toList.take (n*sz)=cells
def BN{α:Type}(m:Bool)(r:Rp α)(T:TypeId)(l:Option Nat)(cap:Nat)(xs:List α)(w:World)(S:SH):Prop:=
 ∃cells,ze w T r.sz l cap xs.length cells∧vt r S cells xs∧ ∀b,l=some b→S b=if m then some (.cells cells.toArray T (0,0))else none
theorem ze.lt{sz b n:Nat}(h:ze w T sz (some b) cap n cells):b<w.heap.size:=by
 obtain⟨cur,h1,_⟩:=h
 exact(vd.1 h1).1
theorem ze.ext{sz n:Nat}(h:ze w T sz l cap n cells)(k: ∀b,l=some b→w'.heap[b]? =w.heap[b]?):ze w' T sz l cap n cells:=by
 cases l with
 |none=>exact h
 |some b=>
  obtain⟨cur,h1,h2⟩:=h
  exact⟨cur,by rw [k b rfl];exact h1,h2⟩
def m6{α:Type}(m:Bool)(r:Rp α)(T:TypeId)(l:Option Nat)(cap:Nat)(xs:List α):OE where
 fp:=fun k=>l=some k
 p:=BN m r T l cap xs
 here:=by
  intro w S h k hk
  subst hk
  obtain⟨cells,h1,_⟩:=h
  exact h1.lt
 kept:=by
  intro C w w' S S' h k hC
  obtain⟨cells,h1,h2,h3⟩:=h
  refine⟨cells,h1.ext fun b hb=>?_,ss k.keep h2,fun b hb=>?_⟩
  ·subst hb;exact k.heap b h1.lt (hC b rfl)
  ·subst hb;rw [k.old b h1.lt (hC b rfl)];exact h3 b rfl
abbrev ga{α:Type}(r:Rp α)(T:TypeId)(l:Option Nat)(cap:Nat)(xs:List α):OE:=m6 false r T l cap xs
abbrev tip{α:Type}(r:Rp α)(T:TypeId)(l:Option Nat)(cap:Nat)(xs:List α):OE:=m6 true r T l cap xs
def kq{α:Type}(xs ys:List α):Option (List α):=if xs.length+ys.length≤68719476736 then some (xs++ys)else none
variable{zs:List α}
theorem Qg(h:kq xs ys=some zs):zs=xs++ys∧xs.length+ys.length≤68719476736:=by
 unfold kq at h
 split at h
 ·exact⟨by simpa using h.symm,by assumption⟩
 ·cases h
variable{news:List Value}
theorem yN{P:Program}{t tx ty:TypeId}{i:TypeInfo}(ht:P.underlying t=some (.slice e))(hi:P.info? e=some i){g sLen sCap:Nat}{cur:Array Value}(hg:w.heap[g]? =some (.cells cur e (0,0))){x:Value}{n:Nat}(hs:Src P i.size tx x n news w)(hroom:sLen+n≤sCap)(hfit:sLen*i.size+news.length≤cur.size):
  (Builtin.append_ #[t,tx] ty #[.slice (some ⟨g,0,none⟩) sLen sCap,x]).run P w=
   .ok (.slice (some ⟨g,0,none⟩) (sLen+n) sCap) (w.setRow g (cur.toList.take (sLen*i.size)++news++cur.toList.drop (sLen*i.size+news.length)).toArray):=by
 have hst:=run_storeCells_at P g (sLen*i.size) e news 0 cur w hg (by simpa using hfit) hs.one
 simp only [yD]at hst
 rcases hs.kind with⟨e',hk⟩|hk<;>simp [Builtin.append_,kH ht,kH hk,sizeOf,typeInfo,hi,hs.len,hroom,hs.cells,Addr.add_lit,hst]
structure S6(l:Option Nat)(w w' :World):Prop where
 os:w'.os=w.os
 tape:w'.tape=w.tape
 output:w'.output=w.output
 drawn:w.drawn≤w'.drawn
 size:w.heap.size≤w'.heap.size
 heap: ∀k,k<w.heap.size→l≠some k→w'.heap[k]? =w.heap[k]?
variable{t' :TypeId}
theorem DH{P:Program}{t ty:TypeId}{sz:Nat}{agg:Bool}{n m:Nat}{x:Value}(ti:TI P T sz bytes agg z)(hz:Nat.beq z.length sz=true)(h0:Nat.blt 0 sz=true)(h128:Nat.ble bytes 2048=true)(ht:P.underlying t=some (.slice T))(h:ze w T sz l cap n cells)(hs:Src P sz t' x m news w)(hlen:n+m≤68719476736):
  ∃l' cap' w',(Builtin.append_ #[t,t'] ty #[aV l cap n,x]).run P w= .ok (aV l' cap' (n+m)) w' ∧ze w' T sz l' cap' (n+m) (cells++news)∧S6 l w w' ∧(∀b,l' =some b→l=some b∨w.heap.size≤b)∧(∀b,l=some b→l' ≠some b→w'.heap[b]? =w.heap[b]?):=by
 obtain⟨i,zv,hi,h1,h2,h3,h4⟩:=ti.get
 have h128' :=pT h128
 have h0' :0<sz:=by simpa [u9] using h0
 have hz2:z.length=sz:=pj hz
 subst h1
 have hnl:=hs.newsLen
 have hbytes:(n+m)*i.bytes≤140737488355328:=nf (Nat.mul_le_mul hlen (by omega:i.bytes≤2048)) (by omega)
 by_cases hm:m=0
 ·subst hm
  have hn0:news=[]:=vv (by simpa using hnl)
  subst hn0
  refine⟨l,cap,w,?_,by simpa using h,⟨rfl,rfl,rfl,eW _,eW _,fun _ _ _=>rfl⟩,fun b hb=> .inl hb,fun b _ _=>rfl⟩
  cases l with
  |none=>
   obtain⟨rfl,_⟩:=h
   exact run_append_nothing w t t' ty T i ht hi none 0 0 (eW _) _ hs
  |some b=>
   obtain⟨cur,_,hle,_⟩:=h
   exact run_append_nothing w t t' ty T i ht hi (some ⟨b,0,none⟩) n cap hle _ hs
 have Ub: ∀old,old<n+m→Builtin.nextslicecap (n+m) old*i.bytes≤281474976710656:=fun old ho=>growslice_fits ho hbytes
 -- a new row
 have fresh: ∀(base:Option Addr) (olds:List Value),aV l cap n= .slice base n cap→olds=cells→cap<n+m→(Builtin.firstCells i.size n (.slice base n cap)).run P w.drew= .ok olds.toArray w.drew→cells.length=n*i.size→
   ∃l' cap' w',(Builtin.append_ #[t,t'] ty #[aV l cap n,x]).run P w= .ok (aV l' cap' (n+m)) w' ∧ze w' T i.size l' cap' (n+m) (cells++news)∧S6 l w w' ∧(∀b,l' =some b→l=some b∨w.heap.size≤b)∧(∀b,l=some b→l' ≠some b→w'.heap[b]? =w.heap[b]?):=by
  intro base olds hv he hg hf hcl
  subst he
  have hr:=run_append_grow_src (P:=P) w t t' ty T i zv ht hi h3 base n cap olds hf x m news hs hg (by omega) (Ub cap hg)
  have hge:=grownCap_ge w (n+m) cap T
  rw [←hv]at hr
  refine⟨some w.heap.size,grownCap w (n+m) cap T,_,hr,⟨_,Cx w.drew _,hge,grownCap_le_maxLen _ _ _ _ (by simp only [maxLen];omega),?_,?_⟩,⟨rfl,rfl,rfl,Nat.le_succ _,by simp,fun k hk _=>?_⟩,fun b hb=> .inr (yR (po hb)),fun b hb _=>?_⟩
  ·have:(Builtin.zeroCells zv.cells (grownCap w (n+m) cap T-(n+m))).size=(grownCap w (n+m) cap T-(n+m))*i.size:=by
    rw [size_zeroCells,h4];simp [hz2]
   simp only [Array.size_append,Fa,lw,hcl,hnl,this]
   rw [←w7,←w7]
   congr 1;omega
  ·have hl2:(olds++news).length=(n+m)*i.size:=by rw [lw,hcl,hnl,w7]
   rw [Array.toList_append,zg (by simp only [List.toList_toArray];omega)]
   simp only [List.toList_toArray]
   exact rZ (by omega)
  ·exact nU (w:=w.drew) hk
  ·cases l with
   |none=>cases hb
   |some b0=>
    have hb' :b0=b:=po hb
    subst hb'
    exact nU (w:=w.drew) (ze.lt h)
 cases l with
 |none=>
  obtain⟨rfl,rfl⟩:=h
  have:=run_append_grow_src (P:=P) w t t' ty T i zv ht hi h3 none 0 0 [] (run_firstCells_none w.drew i.size 0 0 0) x m news hs (by omega) (by omega) (Ub 0 (by omega))
  have hge:=grownCap_ge w (0+m) 0 T
  refine⟨some w.heap.size,grownCap w (0+m) 0 T,_,this,⟨_,Cx w.drew _,hge,grownCap_le_maxLen _ _ _ _ (by simp only [maxLen];omega),?_,?_⟩,⟨rfl,rfl,rfl,Nat.le_succ _,by simp,fun k hk _=>?_⟩,fun b hb=> .inr (yR (po hb)),fun b hb=>(by cases hb)⟩
  ·have:(Builtin.zeroCells zv.cells (grownCap w (0+m) 0 T-(0+m))).size=(grownCap w (0+m) 0 T-(0+m))*i.size:=by
    rw [size_zeroCells,h4];simp [hz2]
   simp only [Array.size_append,Fa,ke,hnl,this]
   rw [←w7]
   congr 1;omega
  ·rw [Array.toList_append,zg (by simp [hnl])]
   simp only [ke,q7]
   exact rZ (by omega)
  ·exact nU (w:=w.drew) hk
 |some b=>
  obtain⟨cur,hb,hle,hmax,hcs,hct⟩:=h
  have hcl:cells.length=n*i.size:=by
   rw [←hct,z8,Dj,hcs]
   exact Bc (CA _ hle)
  by_cases hroom:n+m≤cap
  ·have hfit:n*i.size+news.length≤cur.size:=by rw [hnl,hcs,←w7];exact CA _ hroom
   have hr:=yN (t:=t) (tx:=t') (ty:=ty) ht hi hb hs hroom hfit
   refine⟨some b,cap,_,hr,⟨_,setRow_heap w b cur _ T _ hb,hroom,hmax,?_,?_⟩,⟨rfl,rfl,rfl,eW _,by simp [World.setRow],fun k hk hkb=>setRow_other w b k _ (fun e=>hkb (by rw [e]))⟩,fun b' hb' => .inl hb',fun b' hb' hne=>absurd hb' hne⟩
   ·simp only [Fa,lw,z8,B0,Dj]
    omega
   ·rw [hct,w7,←hnl,←hcl,show cells.length+news.length=(cells++news).length from by simp]
    exact List.take_left
  ·refine fresh (some ⟨b,0,none⟩) cells rfl rfl (by omega) (run_firstCells_some w.drew i.size n ⟨b,0,none⟩ n cap cells hcl fun j v hv=>?_) hcl
   have hj:j<cells.length:=(qW.1 hv).1
   have hcell:w.cell? ⟨b,j,none⟩=cur[j]? :=AX hb j
   rw [jS]
   show w.cell? ⟨b,0+j,none⟩=_
   rw [q7,hcell]
   rw [←hct,Bg (by omega)]at hv
   simpa using hv
theorem xm{P:Program}{r:Rp α}{e' :TypeId}(ht:P.underlying t' =some (.slice e'))(hs:jU w S)(hv:(tD (fH r) ys).p S v): ∃news,Src P r.sz t' v ys.length news w∧vt r S news ys:=by
 obtain⟨ad,c2,rfl,hcap,hmax,hsl⟩:=n6.1 hv
 rcases hsl with rfl|⟨b,off,c,U,fr,e1,e2,e3⟩
 ·refine⟨[],?_,rfl⟩
  cases ad with
  |none=>exact .ofNil w ht c2
  |some a=>exact .ofSlice w ht a 0 c2 [] (by simp) (fun j u hu=>by simp at hu) (fun u hu=>by cases hu)
 ·subst e1
  obtain⟨c',h4,h5⟩:=hs.part e2 (n8 e3)
  refine⟨_,.ofSlice w ht ⟨b,off,none⟩ ys.length c2 _ (n8 e3) (fun j u hu=>?_) (CZ e3),e3⟩
  rw [jS,AX h4]
  rw [←h5]at hu
  have hj:j<ys.length*r.sz:=by
   have:=(qW.1 hu).1
   simp at this;omega
  rw [Bg hj,xb]at hu
  simpa using hu
variable{mm:Bool}
theorem xu{P:Program}{r:Rp α}{t ty:TypeId}{sz:Nat}{agg:Bool}{base:Nat}{B:Nat→Prop}(ti:TI P T sz bytes agg z)(hsz:r.sz=sz)(hz:Nat.beq z.length sz=true)(h0:Nat.blt 0 sz=true)(h128:Nat.ble bytes 2048=true)(ht:P.underlying t=some (.slice T))(hs:jU w S)(h:(m6 mm r T l cap xs).holds base B w S)(hb:base≤w.heap.size)(hsrc:Src P r.sz t' v ys.length news w)(hrc:vt r S news ys)(hz' :kq xs ys=some zs):
  ∃l' cap' w' S',(Builtin.append_ #[t,t'] ty #[aV l cap xs.length,v]).run P w= .ok (aV l' cap' zs.length) w' ∧gW (fun k=>l=some k) w S w' S' ∧jU w' S' ∧(m6 mm r T l' cap' zs).holds base B w' S' ∧(∀b,l' =some b→l=some b∨w.heap.size≤b):=by
 subst hsz
 obtain⟨rfl,hlen⟩:=Qg hz'
 obtain⟨⟨cells,h1,h2,h3⟩,hbase⟩:=h
 obtain⟨l',cap',w',hr,hraw,hg,hnew,hold⟩:=DH (ty:=ty) ti hz h0 h128 ht h1 hsrc hlen
 have hrc' :vt r S (cells++news) (xs++ys):=wj h2 hrc
 -- what stood settled stands
 have hsat0: ∀k o,S k=some o→ ∃o',w'.heap[k]? =some o' ∧ES o o' :=fun k o hk=>by
  have hlt:=hs.lt hk
  by_cases hkl:l=some k
  ·obtain⟨o',e1,e2⟩:=hs k o hk
   by_cases hkl' :l' =some k
   ·subst hkl'
    subst hkl
    have h3' :=h3 k rfl
    cases mm with
    |false=>rw [h3']at hk;cases hk
    |true=>
     rw [h3']at hk
     cases hk
     obtain⟨cur',g1,g2,g3,g4,g5⟩:=hraw
     refine⟨_,g1,?_⟩;refine⟨news++cur'.toList.drop ((xs.length+ys.length)*r.sz),?_⟩
     congr 1
     apply Array.ext'
     rw [←iS,←g5,vb]
   ·rw [hold k hkl hkl'];exact hs k o hk
  ·rw [hg.heap k hlt hkl];exact hs k o hk
 have hsat:jU w' S:=⟨hsat0,hs.gl,hs.tb⟩
 have hSn: ∀b,l' =some b→l≠some b→S b=none:=fun b hb' hne=>by
  cases hq:S b with
  |none=>rfl
  |some q=>
   have:=hs.lt hq
   rcases hnew b hb' with h|h
   ·exact absurd h hne
   ·omega
 have hbase' : ∀k,l' =some k→base≤k∨B k:=fun k hk=>by
  rcases hnew k hk with h|h
  ·exact hbase k h
  ·exact .inl (by omega)
 have hz2:(xs++ys).length=xs.length+ys.length:=lw
 cases mm with
 |false=>
  refine⟨l',cap',w',S,by rw [hz2];exact hr,⟨hg.os,hg.tape,hg.output,hg.drawn,hg.size,fun k hk hkb=>hg.heap k hk hkb,SH.le_refl _,fun _ _ _=>rfl⟩,hsat,⟨⟨cells++news,by rw [hz2];exact hraw,hrc',fun b hb' =>?_⟩,hbase'⟩,hnew⟩
  by_cases hlb:l=some b
  ·exact h3 b hlb
  ·exact hSn b hb' hlb
 |true=>
  cases l' with
  |none=>
   refine⟨none,cap',w',S,by rw [hz2];exact hr,⟨hg.os,hg.tape,hg.output,hg.drawn,hg.size,fun k hk hkb=>hg.heap k hk hkb,SH.le_refl _,fun _ _ _=>rfl⟩,hsat,⟨⟨cells++news,by rw [hz2];exact hraw,hrc',fun b hb' =>(by cases hb')⟩,hbase'⟩,hnew⟩
  |some g=>
   have hq3: ∀q,S g=some q→ES q (.cells (cells++news).toArray T (0,0)):=fun q hq=>by
    by_cases hlb:l=some g
    ·have h4:S g=some (.cells cells.toArray T (0,0)):=h3 g hlb
     rw [h4]at hq
     cases hq
     exact⟨news,by simp⟩
    ·rw [hSn g rfl hlb]at hq;cases hq
   have hle:SH.le S (S.set g (.cells (cells++news).toArray T (0,0))):=BQ hq3
   obtain⟨cur',g1,g2,g3,g4,g5⟩:=hraw
   refine⟨some g,cap',w',S.set g (.cells (cells++news).toArray T (0,0)),by rw [hz2];exact hr,⟨hg.os,hg.tape,hg.output,hg.drawn,hg.size,fun k hk hkb=>hg.heap k hk hkb,hle,fun k hk hkb=>rx _ _ ?_⟩,hsat.set g1 ?_ hq3,⟨⟨cells++news,by rw [hz2];exact⟨cur',g1,g2,g3,g4,g5⟩,ss hle hrc',fun b hb' =>?_⟩,hbase'⟩,hnew⟩
   ·rintro rfl
    rcases hnew k rfl with h|h
    ·exact hkb h
    ·omega
   ·refine⟨cur'.toList.drop ((xs.length+ys.length)*r.sz),?_⟩
    congr 1
    apply Array.ext'
    rw [←g5,vb]
   ·have hb2:g=b:=po hb'
    subst hb2
    exact oO _ _ _

theorem KL{e f:OE}(h:e.apart f):f.apart e:=fun b hb he=>h b he hb
theorem du.swap{base:Nat}{B:Nat→Prop}{e f:OE}(h:du base B w S (e::f::O)):du base B w S (f::e::O):=by
 obtain⟨h1,h2,h3,h4,h5⟩:=h
 refine⟨h3,?_,h1,?_,h5⟩
 ·intro g hg
  rcases jl.1 hg with rfl|hg
  ·exact KL (h2 _ (iA ..))
  ·exact h4 g hg
 ·intro g hg
  exact h2 g (pS _ hg)
theorem vK{base:Nat}{B:Nat→Prop}{e:OE}{O' :List OE}(h:du base B w S (e::O))(k:du base B w S O→du base B w S O')(hm: ∀f∈O',f∈O):du base B w S (e::O'):=
 ⟨h.1,fun f hf=>h.2.1 f (hm f hf),k h.2.2⟩
theorem ut{base:Nat}{B:Nat→Prop}{a b c:OE}(h:du base B w S (a::b::c::O)):du base B w S (c::a::b::O):=
 (vK h du.swap (fun f hf=>by simp only [jl]at hf ⊢;rcases hf with h|h|h<;>simp [h])).swap
theorem ur{base:Nat}{B:Nat→Prop}{a b c d:OE}(h:du base B w S (a::b::c::d::O)):du base B w S (d::a::b::c::O):=
 (vK h ut (fun f hf=>by simp only [jl]at hf ⊢;rcases hf with h|h|h|h<;>simp [h])).swap
theorem uq{base:Nat}{B:Nat→Prop}{a b c d e:OE}(h:du base B w S (a::b::c::d::e::O)):du base B w S (e::a::b::c::d::O):=
 (vK h ur (fun f hf=>by simp only [jl]at hf ⊢;rcases hf with h|h|h|h|h<;>simp [h])).swap

section
variable{E:En}
theorem St.own_map{O' :List OE}(h:St E O G a w S)(k:du E.base E.B w S O→du E.base E.B w S O'):St E O' G a w S:=⟨h.ext,h.sat,k h.own,h.facts⟩
theorem St.base_le(h:St E O G a w S):E.base≤w.heap.size:=h.ext.size
theorem St.drop{e:OE}(h:St E (e::O) G a w S):St E O G a w S:=h.own_map fun h=>h.2.2
theorem St.fresh(mm:Bool)(r:Rp α)(T:TypeId)(h:St E O G a w S):St E (m6 mm r T none 0 []::O) G a w S:=
 h.own_map fun h=>by refine⟨⟨⟨[],⟨rfl,rfl⟩,rfl,fun b hb=>(by cases hb)⟩,fun k hk=>?_⟩,fun f _ b hb=>?_,h⟩<;>(first|cases hk|cases hb)
theorem DF{e:OE}{b:Nat}{o:Obj}(h:St E (e::O) G a w S)(hb:e.fp b)(ho:w.heap[b]? =some o')(hoo:ES o o')(hn:S b=none):St E O G a w (S.set b o)∧SH.le S (S.set b o)∧gW (fun k=>k=b) w S w (S.set b o)∧jU w (S.set b o):=by
 have hbase:=h.own.1.2 b hb
 have hle:SH.le S (S.set b o):=BQ fun q hq=>(by rw [hn]at hq;cases hq)
 have hsat:jU w (S.set b o):=h.sat.set ho hoo fun q hq=>by rw [hn]at hq;cases hq
 have hext:gW (fun k=>k=b) w S w (S.set b o):=⟨rfl,rfl,rfl,eW _,eW _,fun _ _ _=>rfl,hle,fun k _ hk=>rx _ _ hk⟩
 refine⟨⟨h.ext.step hext fun c hc=>by subst hc;exact hbase,hsat,h.own.2.2.ext hext fun f hf c hc hm=>?_,h.facts.mono hle⟩,hle,hext,hsat⟩
 subst hm
 exact h.own.2.1 f hf c hb hc
def tO{α:Type}(r:Rp α)(l:Option Nat)(cap:Nat)(xs:List α):Ty where
 p:=fun S v=>v=aV l cap xs.length∧(tD (fH r) xs).p S v
 mono:=fun h ⟨h1,h2⟩=>⟨h1,Ty.mono _ h h2⟩
theorem Bl{N:Fr}{G:mz}{r:Rp α}(h:aZ N G x (tO r l cap xs)):aZ N G x (tV (aV l cap xs.length)):=fun S a hf=>(h S a hf).1
theorem kT{N:Fr}{G:mz}{r:Rp α}(h:aZ N G x (tO r l cap xs)):aZ N G x (tD (fH r) xs):=fun S a hf=>(h S a hf).2
theorem nE{r:Rp α}{w:World}{S:SH}(h:BN true r T l cap xs w S):(tD (fH r) xs).p S (aV l cap xs.length):=by
 obtain⟨cells,h1,h2,h3⟩:=h
 cases l with
 |none=>
  have hx:xs=[]:=vv h1.1
  subst hx
  exact GA
 |some b=>
  obtain⟨cur,g1,g2,g3,g4,g5⟩:=h1
  refine n6.2 ⟨_,cap,rfl,g2,g3,.inr ⟨b,0,cells.toArray,T,(0,0),rfl,h3 b rfl,?_⟩⟩
  have:=n8 h2
  rw [sM,rZ (by simp [this])]
  exact h2
theorem St.freeze{r:Rp α}(h:St E (ga r T l cap xs::O) G a w S):
  ∃S',St E (tip r T l cap xs::O) G a w S' :=by
 obtain⟨⟨cells,h1,h2,h3⟩,hbase⟩:=h.own.1
 cases l with
 |none=>exact⟨S,h.ext,h.sat,⟨⟨⟨cells,h1,h2,fun b hb=>(by cases hb)⟩,hbase⟩,h.own.2⟩,h.facts⟩
 |some b=>
  obtain⟨cur,g1,g2,g3,g4,g5⟩:=h1
  have hoo:ES (.cells cells.toArray T (0,0)) (.cells cur T (0,0)):=by
   refine⟨cur.toList.drop (xs.length*r.sz),?_⟩
   congr 1
   apply Array.ext'
   rw [←g5,vb]
  obtain⟨h8,hle,_,_⟩:=DF h rfl g1 hoo (h3 b rfl)
  refine⟨_,h8.ext,h8.sat,⟨⟨⟨cells,⟨cur,g1,g2,g3,g4,g5⟩,ss hle h2,fun b' hb' =>?_⟩,hbase⟩,h.own.2.1,h8.own⟩,h8.facts⟩
  have hb2:b=b' :=po hb'
  subst hb2
  exact oO _ _ _
theorem St.settle{r:Rp α}(h:St E (m6 mm r T l cap xs::O) G a w S):
  ∃S',St E O G a w S' ∧(tD (fH r) xs).p S' (aV l cap xs.length):=by
 cases mm with
 |true=>exact⟨S,h.drop,nE h.own.1.1⟩
 |false=>
  obtain⟨S',h1⟩:=h.freeze
  exact⟨S',h1.drop,nE h1.own.1.1⟩
end

section
variable{E:En}{e:Exit}
theorem Kv{N:Fr}(h:dr N S a G)(hk:t.p S (a.tmps.getD k undef)):dr N S a ((k,t)::G):=
 ⟨h.size,h.defers,fun j u hj=>by
  unfold look at hj
  by_cases hb:Nat.beq k j=true
  ·rw [hb]at hj
   have:=pj hb
   subst this
   rw [←show t=u from by simpa using hj];exact hk
  ·rw [zW]at hb
   rw [hb]at hj
   exact h.at_ j u hj⟩
theorem St.cons(h:St E O G a w S)(hk:t.p S (a.tmps.getD k undef)):St E O ((k,t)::G) a w S:=⟨h.ext,h.sat,h.own,Kv h.facts hk⟩
theorem St.tipAt{r:Rp α}{n:Nat}(h:St E (tip r T l cap xs::O) G a w S)(hk:look G k=some (tV (aV l cap n)))(hn:n=xs.length):
  St E (tip r T l cap xs::O) ((k,tO r l cap xs)::G) a w S:=by
 subst hn
 have hv:a.tmps.getD k undef=aV l cap xs.length:=h.facts.at_ k _ hk
 exact h.cons ⟨hv,by rw [hv];exact nE h.own.1.1⟩
theorem cd(mm:Bool)(r:Rp α)(T:TypeId)(h:RG E ops Q rest (m6 mm r T none 0 []::O) G):RG E ops Q rest O G:=fun a w S st=>h a w S (st.fresh mm r T)
theorem Dd{f:OE}(h:RG E ops Q rest O G):RG E ops Q rest (f::O) G:=fun a w S st=>h a w S st.drop
theorem CG.drop{f:OE}(h:CG E Q c O G):CG E Q c (f::O) G:=fun a w S st=>h a w S st.drop
theorem aL{f:OE}(h:AT E Q e O G):AT E Q e (f::O) G:=fun a w S st=>h a w S st.drop
theorem bL{x y:OE}(h:RG E ops Q rest (y::x::O) G):RG E ops Q rest (x::y::O) G:=fun a w S st=>h a w S (st.own_map du.swap)
theorem NU{x y:OE}(h:CG E Q c (y::x::O) G):CG E Q c (x::y::O) G:=fun a w S st=>h a w S (st.own_map du.swap)
theorem bE{x y:OE}(h:AT E Q e (y::x::O) G):AT E Q e (x::y::O) G:=fun a w S st=>h a w S (st.own_map du.swap)
theorem c0{x y z:OE}(h:RG E ops Q rest (z::x::y::O) G):RG E ops Q rest (x::y::z::O) G:=fun a w S st=>h a w S (st.own_map ut)
theorem aD{x y z:OE}(h:AT E Q e (z::x::y::O) G):AT E Q e (x::y::z::O) G:=fun a w S st=>h a w S (st.own_map ut)
theorem dC{x y z:OE}(h:RG E ops Q rest (u::x::y::z::O) G):RG E ops Q rest (x::y::z::u::O) G:=fun a w S st=>h a w S (st.own_map ur)
theorem bF{x y z:OE}(h:AT E Q e (u::x::y::z::O) G):AT E Q e (x::y::z::u::O) G:=fun a w S st=>h a w S (st.own_map ur)
theorem jD{x y z v:OE}(h:RG E ops Q rest (v::x::y::z::u::O) G):RG E ops Q rest (x::y::z::u::v::O) G:=fun a w S st=>h a w S (st.own_map uq)
theorem dq{x y z v:OE}(h:AT E Q e (v::x::y::z::u::O) G):AT E Q e (x::y::z::u::v::O) G:=fun a w S st=>h a w S (st.own_map uq)
theorem mH{f:OE}(h:LG E Q c O G):LG E Q c (f::O) G:=fun a w S st=>h a w S st.drop
theorem eV{x y:OE}(h:LG E Q c (y::x::O) G):LG E Q c (x::y::O) G:=fun a w S st=>h a w S (st.own_map du.swap)
theorem iJ{x y z:OE}(h:LG E Q c (z::x::y::O) G):LG E Q c (x::y::z::O) G:=fun a w S st=>h a w S (st.own_map ut)
theorem ph{x y z:OE}(h:LG E Q c (u::x::y::z::O) G):LG E Q c (x::y::z::u::O) G:=fun a w S st=>h a w S (st.own_map ur)
theorem rz{x y z v:OE}(h:LG E Q c (v::x::y::z::u::O) G):LG E Q c (x::y::z::u::v::O) G:=fun a w S st=>h a w S (st.own_map uq)
theorem m8{r:Rp α}(h:RG E ops Q rest (tip r T l cap xs::O) G):RG E ops Q rest (ga r T l cap xs::O) G:=fun a w _ st=>let⟨S',st'⟩:=st.freeze;h a w S' st'
theorem lk{r:Rp α}{n:Nat}(k:Nat)(hk:look G k=some (tV (aV l cap n)))(h:RG E ops Q rest (tip r T l cap xs::O) ((k,tO r l cap xs)::G))(hn:n=xs.length:=by rfl):RG E ops Q rest (tip r T l cap xs::O) G:=fun a w S st=>h a w S (st.tipAt hk hn)
theorem vO{r:Rp α}(h:CG E Q c (tip r T l cap xs::O) G):CG E Q c (ga r T l cap xs::O) G:=fun a w _ st=>let⟨S',st'⟩:=st.freeze;h a w S' st'
theorem uv{r:Rp α}{n:Nat}(k:Nat)(hk:look G k=some (tV (aV l cap n)))(h:CG E Q c (tip r T l cap xs::O) ((k,tO r l cap xs)::G))(hn:n=xs.length:=by rfl):CG E Q c (tip r T l cap xs::O) G:=fun a w S st=>h a w S (st.tipAt hk hn)
theorem gV{r:Rp α}(h:AT E Q e (tip r T l cap xs::O) G):AT E Q e (ga r T l cap xs::O) G:=fun a w _ st=>let⟨S',st'⟩:=st.freeze;h a w S' st'
theorem cC{r:Rp α}{n:Nat}(k:Nat)(hk:look G k=some (tV (aV l cap n)))(h:AT E Q e (tip r T l cap xs::O) ((k,tO r l cap xs)::G))(hn:n=xs.length:=by rfl):AT E Q e (tip r T l cap xs::O) G:=fun a w S st=>h a w S (st.tipAt hk hn)
theorem br{r:Rp α}(hk:look G k=some (tD (fH r) xs))(h:xs.length≤maxLen→CG E Q c O G):CG E Q c O G:=fun a w S st=>by
 obtain⟨_,_,_,h1,h2,_⟩:=n6.1 (st.facts.at_ k _ hk)
 exact h (nf h1 h2) a w S st

section
variable{ty:TypeId}
theorem St.append{r:Rp α}{t ty:TypeId}{sz:Nat}{agg:Bool}(ti:TI E.P T sz bytes agg z)(hsz:r.sz=sz)(hz:Nat.beq z.length sz=true)(h0:Nat.blt 0 sz=true)(h128:Nat.ble bytes 2048=true)(ht:E.P.underlying t=some (.slice T))(st:St E (m6 mm r T l cap xs::O) G a w S)(hsrc:Src E.P r.sz t' v ys.length news w)(hrc:vt r S news ys)(happ:kq xs ys=some zs):
  ∃l' cap' w' S',(Builtin.append_ #[t,t'] ty #[aV l cap xs.length,v]).run E.P w= .ok (aV l' cap' zs.length) w' ∧St E (m6 mm r T l' cap' zs::O) G a w' S' :=by
 obtain⟨l',cap',w',S',hr,hext,hsat,hh,hnew⟩:=xu (ty:=ty) ti hsz hz h0 h128 ht st.sat st.own.1 st.base_le hsrc hrc happ
 refine⟨l',cap',w',S',hr,st.ext.step hext fun b hb=>st.own.1.2 b hb,hsat,⟨hh,fun f hf b hb hfb=>?_,st.own.2.2.ext hext fun f hf b hb hbl=>st.own.2.1 f hf b hbl hb⟩,st.facts.mono hext.keep⟩
 rcases hnew b hb with h|h
 ·exact st.own.2.1 f hf b h hfb
 ·have:=f.here (du.mem st.own.2.2 f hf).1 b hfb
  omega
theorem St.put{d:Nat}(h:St E O G a w S)(hd:Nat.blt d E.N.n=true)(hv:t.p S v):St E O ((d,t)::G) (a.put (some d) v) w S:=⟨h.ext,h.sat,h.own,h.facts.put hd hv⟩
theorem zO{r:Rp α}{t:TypeId}{sz:Nat}{agg:Bool}{n:Nat}{u:Nat→Option Nat→Ty}(ti:TI E.P T sz bytes agg z)(hsz:r.sz=sz)(hz:Nat.beq z.length sz=true)(h0:Nat.blt 0 sz=true)(h128:Nat.ble bytes 2048=true)(ht:E.P.underlying t=some (.slice T))(hd:Nat.blt d E.N.n=true)(hx:aZ E.N G x (tV (aV l cap n)))(hy: ∀a w S,St E (m6 mm r T l cap xs::O) G a w S→ ∃news,Src E.P r.sz t' (a.eval y) ys.length news w∧vt r S news ys)(happ:kq xs ys=some zs)(hu: ∀l' cap' w0 S,(m6 mm r T l' cap' zs).p w0 S→(u cap' l').p S (aV l' cap' zs.length))(k: ∀l' cap',RG E ops Q rest (m6 mm r T l' cap' zs::O) ((d,u cap' l')::G))(hn:n=xs.length):
  RG E ops Q (⟨some d,.call ⟨.builtin .append,#[x,y],#[t,t']⟩,ty,pos,after,none⟩::rest) (m6 mm r T l cap xs::O) G:= .of rfl fun a w S st=>by
 subst hn
 have h1:a.eval x=aV l cap xs.length:=hx S a st.facts
 obtain⟨news,h2,h3⟩:=hy a w S st
 obtain⟨l',cap',w',S',hr,st'⟩:=st.append (ty:=ty) ti hsz hz h0 h128 ht h2 h3 happ
 have hrun:(execOp a.eval ⟨some d,.call ⟨.builtin .append,#[x,y],#[t,t']⟩,ty,pos,after,none⟩).run E.P w= .ok (.value (aV l' cap' zs.length)) w' :=by
  simp [execOp,resolve,invoke,builtin,h1,hr]
 refine⟨fun c h=>(by cases h),?_⟩
 rw [hrun]
 exact k l' cap' _ _ S' (st'.put hd (hu l' cap' w' S' st'.own.1.1))
theorem cK{r:Rp α}{t:TypeId}{sz:Nat}{agg:Bool}{n:Nat}(ti:TI E.P T sz bytes agg z)(hsz:r.sz=sz)(hz:Nat.beq z.length sz=true)(h0:Nat.blt 0 sz=true)(h128:Nat.ble bytes 2048=true)(ht:E.P.underlying t=some (.slice T))(ht' :t' =t)(hd:Nat.blt d E.N.n=true)(hx:aZ E.N G x (tV (aV l cap n)))(hy:aZ E.N G y (tD (fH r) ys))(happ:kq xs ys=some zs)(k: ∀l' cap',RG E ops Q rest (ga r T l' cap' zs::O) ((d,tV (aV l' cap' zs.length))::G))(hn:n=xs.length:=by rfl):
  RG E ops Q (⟨some d,.call ⟨.builtin .append,#[x,y],#[t,t']⟩,ty,pos,after,none⟩::rest) (ga r T l cap xs::O) G:=by
 subst ht'
 exact zO (u:=fun cap' l' =>tV (aV l' cap' zs.length)) ti hsz hz h0 h128 ht hd hx (fun a w S st=>xm ht st.sat (hy S a st.facts)) happ (fun _ _ _ _ _=>rfl) k hn
theorem my{r:Rp α}{t:TypeId}{sz:Nat}{agg:Bool}(ti:TI E.P T sz bytes agg z)(hsz:r.sz=sz)(hz:Nat.beq z.length sz=true)(h0:Nat.blt 0 sz=true)(h128:Nat.ble bytes 2048=true)(ht:E.P.underlying t=some (.slice T))(ht' :t' =t)(hd:Nat.blt d E.N.n=true)(hx:aZ E.N G x (tO r l cap xs))(hy:aZ E.N G y (tD (fH r) ys))(happ:kq xs ys=some zs)(k: ∀l' cap',RG E ops Q rest (tip r T l' cap' zs::O) ((d,tO r l' cap' zs)::G)):
  RG E ops Q (⟨some d,.call ⟨.builtin .append,#[x,y],#[t,t']⟩,ty,pos,after,none⟩::rest) (tip r T l cap xs::O) G:=by
 subst ht'
 exact zO (u:=fun cap' l' =>tO r l' cap' zs) ti hsz hz h0 h128 ht hd (Bl hx) (fun a w S st=>xm ht st.sat (hy S a st.facts)) happ (fun _ _ _ _ h=>⟨rfl,nE h⟩) k rfl
end
end

theorem AL(off:Nat): ∀(cs:List Value) (k:Nat) (pre mid post:List Value),mid.length=cs.length→pre.length=off+k→
  (cs.zipIdx k).foldl (fun(a:Array Value) x=>a.setIfInBounds (off+x.2) x.1) (pre++mid++post).toArray=(pre++cs++post).toArray
 |[],k,pre,mid,post,hm,_=>by
  have:mid=[]:=vv hm
  subst this;simp
 |c::cs,k,pre,mid,post,hm,hp=>by
  cases mid with
  |nil=>simp at hm
  |cons m mid=>
   simp only [List.zipIdx_cons,List.foldl_cons]
   have h1:(pre++(m::mid)++post).toArray.setIfInBounds (off+k) c=((pre++[c])++mid++post).toArray:=by
    rw [←hp]
    simp
   rw [h1,AL off cs (k+1) (pre++[c]) mid post (by simpa using hm) (by simp;omega)]
   simp
theorem Ah(v:Value)(off:Nat)(pre mid post:List Value)(hm:mid.length=v.cells.size)(hp:pre.length=off):
  v.cells.zipIdx.foldl (fun cs (x:Value×Nat)=>cs.setIfInBounds (off+x.2) x.1) (pre++mid++post).toArray=(pre++v.cells.toList++post).toArray:=by
 have:=AL off v.cells.toList 0 pre mid post (by simpa using hm) (by simpa using hp)
 rw [←this,←Array.foldl_toList]
 simp [Array.toList_zipIdx]
theorem vx{r:Rp α}{x:α}(h:r.rc S cs x):(r.val cs).cells=cs.toArray:=by
 unfold Rp.val
 cases ha:r.agg with
 |true=>simp [Value.cells]
 |false=>
  have hl:=r.len h
  rw [r.sc ha]at hl
  match cs,hl with
  |[c],_=>
   have:=r.one h c (by simp)
   cases c<;>simp_all [Value.cells,Value.oneCell']
def Co:Nat→List Value→List (Nat×Value)
 |_,[]=>[]
 |k,v::vs=>(k,v)::Co (k+1) vs
theorem Ee{α:Type}{r:Rp α}{S:SH}: ∀(ys:List α) (vs:List Value) (k:Nat) (pre zs:List Value),wZ S (ys.map (tD r)) vs→pre.length=k*r.sz→zs.length=ys.length*r.sz→
  ∃cs,vt r S cs ys∧Instr.fill (fun i=>some (i*r.sz,r.sz)) (pre++zs).toArray (Co k vs)=some (pre++cs).toArray
 |[],[],k,pre,zs,_,_,hz=>by
  have:zs=[]:=vv (by simpa using hz)
  subst this
  exact⟨[],rfl,by simp [Co,Instr.fill]⟩
 |y::ys,v::vs,k,pre,zs,⟨⟨c,e,hc⟩,h2⟩,hp,hz=>by
  have hl:=r.len hc
  have hz' :r.sz≤zs.length:=by rw [hz,iR,w7];omega
  have e1:zs=zs.take r.sz++zs.drop r.sz:=(vb _ _).symm
  have hcells:v.cells=c.toArray:=by rw [e];exact vx hc
  obtain⟨cs,h3,h4⟩:=Ee ys vs (k+1) (pre++c) (zs.drop r.sz) h2 (by rw [lw,hp,hl,w7];omega) (by rw [B0,hz,iR,w7];omega)
  refine⟨c++cs,⟨c,cs,rfl,hc,h3⟩,?_⟩
  have hs:v.cells.size=r.sz:=by rw [hcells];simpa using hl
  have hcond: ¬((v.cells.size≠r.sz)∨(k*r.sz+v.cells.size>(pre++zs).toArray.size)):=by
   simp [hs];omega
  have h5:=Ah v (k*r.sz) pre (zs.take r.sz) (zs.drop r.sz) (by simp [hs];omega) hp
  rw [iS,←e1]at h5
  simp only [Co,Instr.fill]
  rw [bM (by simpa using hcond)]
  rw [h5,hcells]
  simpa using h4
def wP:Nat→List Operand→List (Nat×Operand)
 |_,[]=>[]
 |k,v::vs=>(k,v)::wP (k+1) vs
theorem BJ(ρ:Operand→Value): ∀(k:Nat) (xs:List Operand),(wP k xs).map (fun x=>(x.1,ρ x.2))=Co k (xs.map ρ)
 |_,[]=>rfl
 |k,x::xs=>by simp [wP,Co,BJ ρ (k+1) xs]

section
variable{E:En}{ty:TypeId}
theorem tY{P:Program}{r:Rp α}{xs:List Operand}{ρ:Operand→Value}{t:TypeId}{n sz:Nat}{agg:Bool}(ht:P.underlying t=some (.slice T))(ti:TI P T sz bytes agg z)(hsz:r.sz=sz)(hn:n=ys.length)(hb:Nat.ble (n*sz) 16777216=true)(hx:wZ S (ys.map (tD r)) (xs.map ρ))(w:World):
  ∃cs,vt r S cs ys∧(Instr.buildSlice t n ((wP 0 xs).toArray.map fun x=>(x.1,ρ x.2))).run P w= .ok (.slice (some ⟨w.heap.size,0,none⟩) n n) (w.alloc (.cells cs.toArray T (0,0))):=by
 subst hsz
 have hb' :=pT hb
 obtain⟨zv,hzr,_⟩:=ti.zero w
 obtain⟨cs,hc,hfill⟩:=Ee ys (xs.map ρ) 0 [] ((Array.range (n*r.sz)).map (fun i=>(if n*r.sz=0 then #[]else zv.cells)[i%(if n*r.sz=0 then #[]else zv.cells).size]!)).toList hx (by simp) (by simp [hn])
 refine⟨cs,hc,?_⟩
 have hparts:((wP 0 xs).toArray.map fun x=>(x.1,ρ x.2)).toList=Co 0 (xs.map ρ):=by simp [BJ]
 simp only [ke,Array.toArray_toList]at hfill
 have hle: ¬(n*r.sz>2^24):=by omega
 by_cases hn0:n*r.sz=0
 ·simp only [hn0,jW]at hfill
  simp only [Instr.buildSlice,qV,kH ht,rY,ti.sizeOf,Sem.run_ite,hn0,jW,BY,hparts,hfill]
  simp [newRow]
 ·simp only [hn0,ji]at hfill
  simp only [Instr.buildSlice,qV,kH ht,rY,ti.sizeOf,Sem.run_ite,hle,ji,hn0,BY,hzr,hparts,hfill]
  simp [newRow]
theorem aN{r:Rp α}{xs:List Operand}{parts:List (Nat×Operand)}{t:TypeId}{n sz:Nat}{agg:Bool}(ht:E.P.underlying t=some (.slice T))(ti:TI E.P T sz bytes agg z)(hsz:r.sz=sz)(h0:Nat.blt 0 sz=true)(hp:parts=wP 0 xs)(hn:n=ys.length)(hb:Nat.ble (n*sz) 16777216=true)(hx:jE E.N G xs (ys.map (tD r))):cH E O G ⟨dst,.buildSlice t n parts.toArray,ty,pos,after,g⟩ (tD (fH r) ys):=
 .of_run fun a w S hs _ hf=>by
  obtain⟨cs,hc,hr⟩:=tY ht ti hsz hn hb (hx.tys hf) w
  subst hsz
  have hb' :=pT hb
  have h0' :0<r.sz:=by simpa [u9] using h0
  have hnle:n≤n*r.sz:=Nat.le_mul_of_pos_right n h0'
  obtain⟨he,hs'⟩:=qS (w:=w) (.cells cs.toArray T (0,0)) hs
  have hcl:=n8 hc
  refine⟨.slice (some ⟨w.heap.size,0,none⟩) n n,_,_,?_,he,hs',n6.2 ⟨_,n,by rw [hn],by omega,by simp only [maxLen];omega,.inr ⟨w.heap.size,0,cs.toArray,T,(0,0),rfl,by simp [SH.set],?_⟩⟩⟩
  ·subst hp
   simp only [execOp,qV,hr,rY,BY]
  ·have:vt r (S.set w.heap.size (.cells cs.toArray T (0,0))) cs ys:=ss he.keep hc
   simpa [←hcl] using this
theorem Kj{r:Rp α}{v:α}(hx:aZ E.N G x (tD r v)):cH E O G ⟨dst,.box T x,ty,pos,after,g⟩ (bt r v):=
 .of_run fun a w S hs _ hf=>by
  obtain⟨cs,hv,hc⟩:=hx S a hf
  obtain⟨he,hs'⟩:=qS (w:=w) (.cells cs.toArray T (0,0)) hs
  refine⟨.pointer (some ⟨w.heap.size,0,none⟩),_,_,?_,he,hs',w.heap.size,0,cs.toArray,T,(0,0),rfl,by simp [SH.set],?_⟩
  ·simp [execOp,Instr.box,newVar,newRow,hv,vx hc]
  ·have:=r.mono he.keep hc
   have hl:=r.len hc
   simpa [←hl] using this
end

def qw(c:Bool)(t:Ty):Ty where
 p:=fun S v=>if c=true then t.p S v else v=undef
 mono:=fun h k=>by
  split
  ·rename_i hc;rw [bS hc]at k;exact t.mono h k
  ·rename_i hc;rw [bM hc]at k;exact k
variable{pol:Bool}
section
variable{E:En}
theorem aS{N:Fr}{c:Bool}(h:look G k=some (qw c t))(hc:c=true):aZ N G (.tmp k) t:=fun _ _ hF=>by
 have h2:if c=true then t.p _ (Act.eval _ (.tmp k))else _=undef:=hF.at_ k _ h
 rw [bS hc]at h2;exact h2
def uW(c b:Bool):Ty:=qw c (tD rB b)
theorem qm(h:look G k=some (tD rB b)):aZ E.N G (.tmp k) (uW true b):=fun _ _ hF=>by
 have h2:(tD rB b).p _ (Act.eval _ (.tmp k)):=hF.at_ k _ h
 simp only [uW,qw,jW]
 exact h2
theorem BC{c:Bool}(h:look G k=some (qw c (tD rB b))):aZ E.N G (.tmp k) (uW c b):=fun _ _ hF=>hF.at_ k _ h
theorem vW{c:Bool}(hg:o.guard=some (j,pol))(hj:(ops[j]?).bind (·.dst)=some gs)(hn:gs<a.tmps.size)(hv:(uW c b).p S (a.tmps.getD gs undef)):
  Region.wanted o (yielded ops a.tmps)=(c&&(b==pol)):=by
 have hget:a.tmps[gs]? =some (a.tmps.getD gs undef):=by
  rw [Gv,Array.getElem?_eq_getElem hn];rfl
 unfold Region.wanted
 rw [hg]
 simp only [yielded,hj,bC,hget]
 cases c with
 |true=>
  have:a.tmps.getD gs undef= .bool b:=ju.1 (by simpa [uW,qw] using hv)
  rw [this]
  cases b<;>cases pol<;>rfl
 |false=>
  have:a.tmps.getD gs undef=undef:=by simpa [uW,qw] using hv
  rw [this]
  cases pol<;>rfl
theorem Hx{c:Bool}{op:Op}{ty:TypeId}(hj:(ops[j]?).bind (·.dst)=some gs)(hgs:Nat.blt gs E.N.n=true)(hg:aZ E.N G (.tmp gs) (uW c b))(hd:Nat.blt d E.N.n=true)(h:(c&&(b==pol))=true→cH E O G ⟨some d,op,ty,pos,after,some (j,pol)⟩ t)(k:RG E ops Q rest O ((d,qw (c&&(b==pol)) t)::G)):
  RG E ops Q (⟨some d,op,ty,pos,after,some (j,pol)⟩::rest) O G:=fun a w S st=>by
 have hgs' :gs<a.tmps.size:=by rw [st.facts.size];simpa [u9] using hgs
 have hw:=vW (o:=⟨some d,op,ty,pos,after,some (j,pol)⟩) rfl hj hgs' (hg S a st.facts)
 refine wpListIn_step fun K hK=>?_
 rw [hw]
 by_cases hc:(c&&(b==pol))=true
 ·rw [bS hc]
  refine lJ (fun a' w' ⟨v,S',ha,he,hs,hv⟩=>?_) (h hc a w S st.sat st.own st.facts)
  subst ha
  refine hK _ _ (k _ _ _ (st.step he hs hd ?_))
  simpa only [qw,hc,jW] using hv
 ·rw [bM hc]
  refine⟨fun _ _=>trivial,hK _ _ (k _ _ S (st.step (gF _ _ _) st.sat hd ?_))⟩
  show if _ then _ else _
  rw [bM hc]
end

structure Nd where
 slot:Nat
 ty:Ty
 src:Option Nat
def bw(E:En)(O:List OE)(ops:Array Oper)(need:mz)(o:Oper)(t:Ty):Prop:=
 ∀a w S,jU w S→du E.base E.B w S O→dr E.N S a need→
  if Region.wanted o (yielded ops a.tmps)then Iy E.P o a w (fun a' w' => ∃v S',a' =a.put o.dst v∧gW qq w S w' S' ∧jU w' S' ∧t.p S' v)else t.p S undef
def kK:List Nd→mz
 |[]=>[]
 |n::l=>(n.slot,n.ty)::kK l
def B4(o:Oper)(j:Nat):Bool:=o.after.toList.any fun e=>Nat.beq e.on j&&Region.binds .any e
def qx(l:List Oper)(o:Oper)(i:Nat)(n:Nd):Bool:=
 match n.src with
 |some j=>(match l[j]? with|some p=>(match p.dst with|some d=>Nat.beq d n.slot|none=>false)|none=>false)&&B4 o j
 |none=>l.all fun p=>(match p.dst with|some d=> !(Nat.beq d n.slot)|none=>true)||B4 p i
def xY(G:mz)(ts:List Ty)(n:Nd):Prop:=
 match n.src with
 |some j=>ts[j]? =some n.ty
 |none=>look G n.slot=some n.ty
def uu(G:mz)(ts:List Ty):List Nd→Prop
 |[]=>True
 |n::l=>xY G ts n∧uu G ts l
theorem uu.mem: ∀{l:List Nd},uu G ts l→ ∀n∈l,xY G ts n
 |_::_,⟨h,_⟩,_,.head _=>h
 |_::_,⟨_,h⟩,_,.tail _ hm=>uu.mem h _ hm
def Sk(o:Oper):Nat:=o.dst.getD 0
def fD(i:Nat)(o:Oper):Bool:=o.after.toList.all fun e=> !(Region.binds .any e)||Nat.blt e.on i
def DR(E:En)(O:List OE)(G:mz)(l:List Oper)(ts:List Ty):Nat→List Oper→Prop
 |_,[]=>True
 |i,o::rest=>(∃(needs:List Nd) (t:Ty),ts[i]? =some t∧uu G ts needs∧(needs.all (qx l o i))=true∧fD i o=true∧bw E O l.toArray (kK needs) o t)∧DR E O G l ts (i+1) rest
def v6(N:Nat):List Nat→List Oper→Bool
 |_,[]=>true
 |seen,o::rest=>(match o.dst with|some d=>Nat.blt d N&& !(seen.any (Nat.beq d))&&v6 N (d::seen) rest|none=>false)
def Y8(E:En)(O:List OE)(G:mz)(l:List Oper)(ts:List Ty)(i:Nat)(o:Oper):Prop:=
 ∃(needs:List Nd) (t:Ty),ts[i]? =some t∧uu G ts needs∧(needs.all (qx l o i))=true∧fD i o=true∧bw E O l.toArray (kK needs) o t
theorem DR.get{E:En}{l:List Oper}(r:List Oper): ∀(k:Nat),DR E O G l ts k r→ ∀(j:Nat) (o:Oper),r[j]? =some o→Y8 E O G l ts (k+j) o:=by
 induction r with
 |nil=>intro k _ j o h;simp at h
 |cons p r ih=>
  intro k h j o ho
  cases j with
  |zero=>simp at ho;subst ho;exact h.1
  |succ j=>
   have:=ih (k+1) h.2 j o (by simpa using ho)
   rwa [show k+1+j=k+(j+1)from by omega]at this
theorem xn{N:Nat}(l:List Oper): ∀(seen:List Nat),v6 N seen l=true→
  (∀o:Oper,o∈l→ ∃d,o.dst=some d∧d<N∧d∉seen)∧ ∀(i j:Nat) (o p:Oper),l[i]? =some o→l[j]? =some p→o.dst=p.dst→i=j:=by
 induction l with
 |nil=>exact fun _ _=>⟨fun _ h=>(by cases h),fun _ _ _ _ h=>(by simp at h)⟩
 |cons o l ih=>
  intro seen h
  unfold v6 at h
  cases hd:o.dst with
  |none=>rw [hd]at h;cases h
  |some d=>
   rw [hd]at h
   simp only [lH,Be]at h
   obtain⟨⟨h1,h2⟩,h3⟩:=h
   have h2' :d∉seen:=fun hm=>by
    rw [List.any_eq_false]at h2
    exact h2 d hm (by simp)
   obtain⟨ih1,ih2⟩:=ih _ h3
   refine⟨fun q hq=>?_,fun i j q p hi hj hdp=>?_⟩
   ·rcases jl.1 hq with rfl|hq
    ·exact⟨d,hd,by simpa [u9] using h1,h2'⟩
    ·obtain⟨d',e1,e2,e3⟩:=ih1 q hq
     exact⟨d',e1,e2,fun hm=>e3 (pS _ hm)⟩
   ·cases i with
    |zero=>
     cases j with
     |zero=>rfl
     |succ j=>
      simp at hi hj
      subst hi
      obtain⟨d',e1,_,e3⟩:=ih1 p (ta hj)
      rw [hd,e1]at hdp
      have e4:d=d' :=by simpa using hdp
      exact absurd (by rw [e4];exact iA ..) e3
    |succ i=>
     cases j with
     |zero=>
      simp at hi hj
      subst hj
      obtain⟨d',e1,_,e3⟩:=ih1 q (ta hi)
      rw [hd,e1]at hdp
      have e4:d' =d:=by simpa using hdp
      exact absurd (by rw [e4];exact iA ..) e3
     |succ j=>rw [ih2 i j q p (by simpa using hi) (by simpa using hj) hdp]

structure DJ(E:En)(O:List OE)(G:mz)(l:List Oper)(ts:List Ty)(done:Array Bool)(a:Act)(w:World)(S:SH):Prop where
 ext:gW E.B E.w0 E.S0 w S
 sat:jU w S
 own:du E.base E.B w S O
 size:a.tmps.size=E.N.n
 defers:a.defers=E.N.ds
 dsz:done.size=l.length
 down: ∀j o,l[j]? =some o→done.getD j false=true→ ∀e∈o.after,Region.binds .any e=true→done.getD e.on false=true
 old: ∀k t,look G k=some t→(∀j o,l[j]? =some o→done.getD j false=true→o.dst≠some k)→t.p S (a.tmps.getD k undef)
 new: ∀j o d t,l[j]? =some o→done.getD j false=true→o.dst=some d→ts[j]? =some t→t.p S (a.tmps.getD d undef)
theorem DJ.need{E:En}{l:List Oper}(h:DJ E O G l ts done a w S)(hi:l[i]? =some o)(hun:done.getD i true=false)(hwait: ∀e∈o.after,Region.binds .any e=true→done.getD e.on false=true){needs:List Nd}(h1:uu G ts needs)(h2:(needs.all (qx l o i))=true):dr E.N S a (kK needs):=by
 have hlt:i<done.size:=by rw [h.dsz];exact(qW.1 hi).1
 have hun' :done.getD i false=false:=by
  simp [hlt]at hun ⊢;exact hun
 refine⟨h.size,h.defers,?_⟩
 have key: ∀n∈needs,n.ty.p S (a.tmps.getD n.slot undef):=by
  intro n hn
  have hs:=pi.1 h2 n hn
  have ho:=h1.mem n hn
  unfold qx at hs
  unfold xY at ho
  cases hsrc:n.src with
  |some j=>
   rw [hsrc]at hs ho
   simp only [lH]at hs
   obtain⟨hs1,hs2⟩:=hs
   cases hj:l[j]? with
   |none=>rw [hj]at hs1;cases hs1
   |some p=>
    rw [hj]at hs1
    cases hd:p.dst with
    |none=>simp only [hd]at hs1;cases hs1
    |some d=>
     simp only [hd]at hs1
     have hd' :=pj hs1
     subst hd'
     have hdone:done.getD j false=true:=by
      unfold B4 at hs2
      obtain⟨e,he0,hb⟩:=Cy.1 hs2
      have he:e∈o.after:=by simpa using he0
      simp only [lH]at hb
      have:=hwait e he hb.2
      rwa [pj hb.1]at this
     exact h.new j p n.slot n.ty hj hdone hd ho
  |none=>
   rw [hsrc]at hs ho
   refine h.old _ _ ho fun j p hj hdone hd=>?_
   have:=pi.1 hs p (ta hj)
   simp only [hd,Nat.beq_refl,oh,wS]at this
   unfold B4 at this
   obtain⟨e,he0,hb⟩:=Cy.1 this
   have he:e∈p.after:=by simpa using he0
   simp only [lH]at hb
   have h3:=h.down j p hj hdone e he hb.2
   rw [pj hb.1]at h3
   rw [h3]at hun'
   cases hun'
 clear h1 h2
 intro k t hk
 induction needs with
 |nil=>simp [kK,look]at hk
 |cons n needs ih=>
  unfold kK look at hk
  by_cases hb:Nat.beq n.slot k=true
  ·rw [hb]at hk
   have:=pj hb
   subst this
   have e:n.ty=t:=by simpa using hk
   rw [←e]
   exact key n (iA ..)
  ·rw [zW]at hb
   rw [hb]at hk
   exact ih (fun m hm=>key m (pS _ hm)) hk
def Kf:List Oper→List Ty→mz→mz
 |o::l,t::ts,G=>(Sk o,t)::Kf l ts G
 |_,_,G=>G
theorem FR(l:List Oper): ∀(ts:List Ty) (k:Nat) (t:Ty),(∀o:Oper,o∈l→o.dst≠none)→ts.length=l.length→look (Kf l ts G) k=some t→
  (∃(j:Nat) (o:Oper),l[j]? =some o∧o.dst=some k∧ts[j]? =some t)∨(look G k=some t∧ ∀o:Oper,o∈l→o.dst≠some k):=by
 induction l with
 |nil=>
  intro ts k t _ hl h
  have:ts=[]:=vv (by simpa using hl)
  subst this
  exact .inr ⟨h,fun _ h=>(by cases h)⟩
 |cons o l ih=>
  intro ts k t hne hl h
  cases ts with
  |nil=>simp at hl
  |cons u ts=>
   unfold Kf look at h
   by_cases hb:Nat.beq (Sk o) k=true
   ·rw [hb]at h
    have hk:=pj hb
    refine .inl ⟨0,o,rfl,?_,by simpa using h⟩
    cases hd:o.dst with
    |none=>exact absurd hd (hne o (iA ..))
    |some d=>simp only [Sk,hd,Option.getD_some]at hk;rw [hk]
   ·rw [zW]at hb
    rw [hb]at h
    rcases ih ts k t (fun p hp=>hne p (pS _ hp)) (by simpa using hl) h with⟨j,p,h1,h2,h3⟩|⟨h1,h2⟩
    ·exact .inl ⟨j+1,p,by simpa using h1,h2,by simpa using h3⟩
    ·refine .inr ⟨h1,fun p hp hd=>?_⟩
     rcases jl.1 hp with rfl|hp
     ·simp [Sk,hd]at hb
     ·exact h2 p hp hd
theorem rM(hd:d<a.tmps.size):(a.put (some d) v).tmps.getD k undef=if d=k then v else a.tmps.getD k undef:=by
 by_cases h:d=k
 ·subst h;simp [Act.put,Gv,hd]
 ·simp [Act.put,Gv,h]
theorem DJ.step{E:En}{l:List Oper}(h:DJ E O G l ts done a w S)(hsl:v6 E.N.n [] l=true)(hi:l[i]? =some o)(hwait: ∀e∈o.after,Region.binds .any e=true→done.getD e.on false=true)(ht:ts[i]? =some t)(hun:done.getD i true=false)(hext:gW qq w S w' S')(hsat:jU w' S')(hv:t.p S' v):DJ E O G l ts (done.setIfInBounds i true) (a.put o.dst v) w' S' :=by
 obtain⟨hs1,hs2⟩:=xn l [] hsl
 obtain⟨d,hd,hdN,_⟩:=hs1 o (ta hi)
 have hda:d<a.tmps.size:=by rw [h.size];exact hdN
 have hlt:i<done.size:=by rw [h.dsz];exact(qW.1 hi).1
 have hset: ∀j,(done.setIfInBounds i true).getD j false=true→j=i∨done.getD j false=true:=fun j hj=>by
  by_cases hij:i=j
  ·exact .inl hij.symm
  ·rw [vw false hij]at hj;exact .inr hj
 have hseti:(done.setIfInBounds i true).getD i false=true:=by simp [hlt]
 have hun' :done.getD i false=false:=by simp [hlt]at hun ⊢;exact hun
 refine⟨h.ext.step0 hext,hsat,h.own.ext0 hext,?_,?_,by simp [h.dsz],fun j p hj hdone e he hb=>?_,fun k u hk hno=>?_,fun j p d' u hj hdone hd' hu=>?_⟩
 ·rw [hd];simp [Act.put,h.size]
 ·rw [hd];exact h.defers
 ·rcases hset j hdone with rfl|hj'
  ·rw [hi]at hj
   have:o=p:=by simpa using hj
   subst this
   exact vR (hwait e he hb)
  ·exact vR (h.down j p hj hj' e he hb)
 ·have hne:d≠k:=fun e=>hno i o hi hseti (by rw [hd,e])
  rw [hd,rM hda,bM hne]
  exact u.mono hext.keep (h.old k u hk fun j p hj hdone=>hno j p hj (vR hdone))
 ·rw [hd,rM hda]
  rcases hset j hdone with rfl|hj'
  ·rw [hi]at hj
   have:o=p:=by simpa using hj
   subst this
   rw [hd]at hd'
   have:d=d' :=by simpa using hd'
   subst this
   rw [bS rfl]
   rw [ht]at hu
   have:t=u:=by simpa using hu
   subst this
   exact hv
  ·have hne:d≠d' :=fun e=>by
    subst e
    have:=hs2 i j o p hi hj (by rw [hd,hd'])
    subst this
    rw [hj']at hun';cases hun'
   rw [bM hne]
   exact u.mono hext.keep (h.new j p d' u hj hj' hd' hu)
theorem Jj{l:List Oper}{done:Array Bool}(hsz:done.size=l.length)(hedge: ∀i o,l[i]? =some o→fD i o=true)(hr:Region.ready .any l.toArray done=[]): ∀n i,i<n→i<l.length→done.getD i false=true
 |0,i,h,_=>by omega
 |n+1,i,h,hi=>by
  have ih:=Jj hsz hedge hr n
  by_cases hd:done.getD i true=true
  ·have:i<done.size:=by omega
   simp [this]at hd ⊢;exact hd
  ·exfalso
   have hmem:i∈Region.ready .any l.toArray done:=by
    rw [tR]
    refine⟨by simpa using hd,l[i],by simp [hi],fun e he hb=>?_⟩
    have:=hedge i l[i] (by simp [hi])
    unfold fD at this
    have:=pi.1 this e (by simpa using he)
    simp only [hb,oh,wS,u9]at this
    exact ih e.on (by omega) (by omega)
   rw [hr]at hmem
   cases hmem
def mb(done:Array Bool):Nat:=done.toList.countP (· ==false)
theorem q9(h:done.getD i true=false):mb (done.setIfInBounds i true)+1=mb done:=by
 have hlt:i<done.size:=by
  rcases lu i done.size with h' |h'
  ·exact h'
  ·simp [Array.getElem?_eq_none h']at h
 have hv:done[i]=false:=by simpa [hlt] using h
 unfold mb
 rw [Array.toList_setIfInBounds,List.countP_set (by simpa using hlt)]
 have h2:(done.toList[i]'(by simpa using hlt))=false:=by simpa using hv
 have hpos:0<done.toList.countP (· ==false):=List.countP_pos_iff.2 ⟨done.toList[i]'(by simpa using hlt),List.getElem_mem _,by rw [h2];rfl⟩
 rw [h2,bS (show(false==false)=true from rfl),bM (show¬((true==false)=true) by decide)]
 omega
theorem JN{E:En}{l:List Oper}(hsl:v6 E.N.n [] l=true)(hd:DR E O G l ts 0 l)(hQ: ∀done a w S,DJ E O G l ts done a w S→(∀i,i<l.length→done.getD i false=true)→Q .normal a w):
  ∀(fuel:Nat) (done:Array Bool) (a:Act) (w:World) (S:SH),mb done=fuel→DJ E O G l ts done a w S→wpAnyIn (fw E.r) 0 E.P .any l.toArray Q fuel done a w:=by
 have hedge: ∀i o,l[i]? =some o→fD i o=true:=fun i o hi=>by
  obtain⟨_,_,_,_,_,h,_⟩:=DR.get l 0 hd i o hi
  simpa using h
 have fin: ∀done a w S,DJ E O G l ts done a w S→Region.ready .any l.toArray done=[]→Q .normal a w:=fun done a w S h hr=>
  hQ done a w S h fun i hi=>Jj h.dsz hedge hr (i+1) i (by omega) hi
 intro fuel
 induction fuel with
 |zero=>
  intro done a w S hu h
  have hr:Region.ready .any l.toArray done=[]:=by
   cases hr:Region.ready .any l.toArray done with
   |nil=>rfl
   |cons i r=>
    have hm:i∈Region.ready .any l.toArray done:=by rw [hr];exact iA ..
    have:=q9 (tR.1 hm).1
    omega
  exact⟨hr,fin done a w S h hr⟩
 |succ fuel ih=>
  intro done a w S hu h
  refine⟨fin done a w S h,fun i hi=>?_⟩
  obtain⟨hun,o,ho,hwait⟩:=tR.1 hi
  have ho' :l[i]? =some o:=by simpa using ho
  obtain⟨needs,t,h1,h2,h3,_,h5⟩:=DR.get l 0 hd i o ho'
  rw [q7]at h1 h3
  have hF:=h.need ho' hun hwait h2 h3
  have h6:=h5 a w S h.sat h.own hF
  have hu' :mb (done.setIfInBounds i true)=fuel:=by have:=q9 hun;omega
  unfold wpOpIn
  rw [ho]
  show if _ then _ else _
  by_cases hw:Region.wanted o (yielded l.toArray a.tmps)=true
  ·rw [bS hw]at h6 ⊢
   refine lJ (fun a' w' ⟨v,S',ha,he,hs,hv⟩=>?_) h6
   subst ha
   exact ih _ _ _ S' hu' (h.step hsl ho' hwait h1 hun he hs hv)
  ·rw [bM hw]at h6 ⊢
   exact⟨fun _ _=>trivial,ih _ _ _ S hu' (h.step hsl ho' hwait h1 hun (gF _ _ _) h.sat h6)⟩
section
variable{E:En}
theorem eu{id:Nat}{l:List Oper}(hm:E.P.follows .mixedOrders=true)(hsl:v6 E.N.n [] l=true)(hlen:ts.length=l.length)(hd:DR E O G l ts 0 l)(k:AT E Q .normal O (Kf l ts G)):
  CG E Q (.region id l.toArray true) O G:=fun a w S st=>by
 refine wpIn_region_any hm ?_
 obtain⟨he,hs⟩:=xZ (w:=w) st.sat
 refine JN hsl hd (fun done a w S h hall=>k a w S ⟨h.ext,h.sat,h.own,h.size,h.defers,fun j t hj=>?_⟩) _ _ _ _ S ?_
  ⟨st.ext.step0 he,hs,st.own.ext0 he,st.facts.size,st.facts.defers,by simp,fun j o hj hdone=>?_,fun k t hk _=>st.facts.at_ k t hk,fun j o d t hj hdone=>?_⟩
 ·obtain⟨hs1,_⟩:=xn l [] hsl
  rcases FR l ts j t (fun o ho e=>by obtain⟨d,hd,_⟩:=hs1 o ho;rw [hd]at e;cases e) hlen hj with⟨i,o,h1,h2,h3⟩|⟨h1,h2⟩
  ·exact h.new i o j t h1 (hall i (qW.1 h1).1) h2 h3
  ·exact h.old j t h1 fun i o ho _=>h2 o (ta ho)
 ·unfold mb;rw [K8,KY];simp
 ·simp [zf]at hdone
  split at hdone<;>simp at hdone
 ·simp [zf]at hdone
  split at hdone<;>simp at hdone
theorem aa{need:mz}(hg:o.guard=none)(h:cH E O need o t):bw E O ops need o t:=fun a w S hs ho hf=>by
 have:Region.wanted o (yielded ops a.tmps)=true:=by unfold Region.wanted;rw [hg]
 rw [this,bS rfl]
 exact h a w S hs ho hf
theorem xX{l:List Oper}{need:mz}{c:Bool}(hg:o.guard=some (j,pol))(hj:((l.toArray)[j]?).bind (·.dst)=some gs)(hgs:Nat.blt gs E.N.n=true)(hb:aZ E.N need (.tmp gs) (uW c b))(h:(c&&(b==pol))=true→cH E O need o t):bw E O l.toArray need o (qw (c&&(b==pol)) t):=fun a w S hs ho hf=>by
 have hw:=vW (ops:=l.toArray) hg hj (by rw [hf.size];simpa [u9] using hgs) (hb S a hf)
 rw [hw]
 by_cases hc:(c&&(b==pol))=true
 ·rw [bS hc]
  refine o5 (fun a' w' ⟨v,S',ha,he,hs,hv⟩=>⟨v,S',ha,he,hs,?_⟩) (h hc a w S hs ho hf)
  show if _ then _ else _
  rw [bS hc];exact hv
 ·rw [bM hc]
  show if _ then _ else _
  rw [bM hc]
end
variable{α0 α1 α2 α3 α4 α5:Type}{Gf:α0→α1→α2→α3→α4→α5→mz}{Of:α0→α1→α2→α3→α4→α5→List OE}{α6:Type}
section
variable{E:En}
theorem BV{id:Nat}{Z:Prop}{Of:List OE}{Gf:mz}(hK:Z→AT E Q .normal (Of) (Gf))(h:(Z→AT E Q .normal (Of) (Gf))→CG E (Exit.inBlock id Q) c O G):CG E Q (.block id c) O G:=ax (h hK)
theorem NR{x y:Code}{Z:Prop}{Of:List OE}{Gf:mz}(hK:Z→CG E Q y (Of) (Gf))
  (h:(Z→AT E (Exit.then (y.wpIn (fw E.r) 0 E.P Q) Q) .normal (Of) (Gf))→CG E (Exit.then (y.wpIn (fw E.r) 0 E.P Q) Q) x O G):CG E Q (.seq x y) O G:=ac (h (fun hz=>hK hz))
theorem pg{Z:Nat→α0→Prop}{Of:α0→List OE}{Gf:α0→mz}(h0: ∀x0,Z 0 x0→False)(h: ∀n,(∀x0,Z n x0→LG E Q c (Of x0) (Gf x0))→ ∀x0,Z (n+1) x0→LG E Q c (Of x0) (Gf x0)): ∀n,∀x0,Z n x0→LG E Q c (Of x0) (Gf x0)
 |0=>fun x0 hz=>(h0 x0 hz).elim
 |n+1=>h n (pg h0 h n)
theorem em{Z:List β→α0→Prop}{Of:List β→α0→List OE}{Gf:List β→α0→mz}(h0: ∀x0,Z [] x0→LG E Q c (Of [] x0) (Gf [] x0))(h: ∀b l,(∀x0,Z l x0→LG E Q c (Of l x0) (Gf l x0))→ ∀x0,Z (b::l) x0→LG E Q c (Of (b::l) x0) (Gf (b::l) x0)): ∀l,∀x0,Z l x0→LG E Q c (Of l x0) (Gf l x0)
 |[]=>h0
 |b::l=>h b l (em h0 h l)
theorem Mk{Z:Nat→α0→Prop}{Of:Nat→α0→List OE}{Gf:Nat→α0→mz}(h0: ∀x0,Z 0 x0→LG E Q c (Of 0 x0) (Gf 0 x0))(h: ∀n,(∀x0,Z n x0→LG E Q c (Of n x0) (Gf n x0))→ ∀x0,Z (n+1) x0→LG E Q c (Of (n+1) x0) (Gf (n+1) x0)): ∀n,∀x0,Z n x0→LG E Q c (Of n x0) (Gf n x0)
 |0=>h0
 |n+1=>h n (Mk h0 h n)
theorem Gp{id:Nat}{Z:α0→Prop}{Of:α0→List OE}{Gf:α0→mz}(hK: ∀x0,Z x0→AT E Q .normal (Of x0) (Gf x0))(h:(∀x0,Z x0→AT E Q .normal (Of x0) (Gf x0))→CG E (Exit.inBlock id Q) c O G):CG E Q (.block id c) O G:=ax (h hK)
theorem dD{x y:Code}{Z:α0→Prop}{Of:α0→List OE}{Gf:α0→mz}(hK: ∀x0,Z x0→CG E Q y (Of x0) (Gf x0))(h:(∀x0,Z x0→AT E (Exit.then (y.wpIn (fw E.r) 0 E.P Q) Q) .normal (Of x0) (Gf x0))→CG E (Exit.then (y.wpIn (fw E.r) 0 E.P Q) Q) x O G):CG E Q (.seq x y) O G:=ac (h (fun x0=>fun hz=>hK x0 hz))
theorem De{Z:Nat→α0→α1→Prop}{Of:α0→α1→List OE}{Gf:α0→α1→mz}(h0: ∀x0 x1,Z 0 x0 x1→False)(h: ∀n,(∀x0 x1,Z n x0 x1→LG E Q c (Of x0 x1) (Gf x0 x1))→ ∀x0 x1,Z (n+1) x0 x1→LG E Q c (Of x0 x1) (Gf x0 x1)): ∀n,∀x0 x1,Z n x0 x1→LG E Q c (Of x0 x1) (Gf x0 x1)
 |0=>fun x0 x1 hz=>(h0 x0 x1 hz).elim
 |n+1=>h n (De h0 h n)
theorem pN{Z:List β→α0→α1→Prop}{Of:List β→α0→α1→List OE}{Gf:List β→α0→α1→mz}(h0: ∀x0 x1,Z [] x0 x1→LG E Q c (Of [] x0 x1) (Gf [] x0 x1))(h: ∀b l,(∀x0 x1,Z l x0 x1→LG E Q c (Of l x0 x1) (Gf l x0 x1))→ ∀x0 x1,Z (b::l) x0 x1→LG E Q c (Of (b::l) x0 x1) (Gf (b::l) x0 x1)): ∀l,∀x0 x1,Z l x0 x1→LG E Q c (Of l x0 x1) (Gf l x0 x1)
 |[]=>h0
 |b::l=>h b l (pN h0 h l)
theorem NX{id:Nat}{Z:α0→α1→Prop}{Of:α0→α1→List OE}{Gf:α0→α1→mz}(hK: ∀x0 x1,Z x0 x1→AT E Q .normal (Of x0 x1) (Gf x0 x1))(h:(∀x0 x1,Z x0 x1→AT E Q .normal (Of x0 x1) (Gf x0 x1))→CG E (Exit.inBlock id Q) c O G):CG E Q (.block id c) O G:=ax (h hK)
theorem yC{x y:Code}{Z:α0→α1→Prop}{Of:α0→α1→List OE}{Gf:α0→α1→mz}(hK: ∀x0 x1,Z x0 x1→CG E Q y (Of x0 x1) (Gf x0 x1))(h:(∀x0 x1,Z x0 x1→AT E (Exit.then (y.wpIn (fw E.r) 0 E.P Q) Q) .normal (Of x0 x1) (Gf x0 x1))→CG E (Exit.then (y.wpIn (fw E.r) 0 E.P Q) Q) x O G):CG E Q (.seq x y) O G:=ac (h (fun x0 x1=>fun hz=>hK x0 x1 hz))
theorem sL{Z:List β→α0→α1→α2→Prop}{Of:List β→α0→α1→α2→List OE}{Gf:List β→α0→α1→α2→mz}(h0: ∀x0 x1 x2,Z [] x0 x1 x2→LG E Q c (Of [] x0 x1 x2) (Gf [] x0 x1 x2))(h: ∀b l,(∀x0 x1 x2,Z l x0 x1 x2→LG E Q c (Of l x0 x1 x2) (Gf l x0 x1 x2))→ ∀x0 x1 x2,Z (b::l) x0 x1 x2→LG E Q c (Of (b::l) x0 x1 x2) (Gf (b::l) x0 x1 x2)): ∀l,∀x0 x1 x2,Z l x0 x1 x2→LG E Q c (Of l x0 x1 x2) (Gf l x0 x1 x2)
 |[]=>h0
 |b::l=>h b l (sL h0 h l)
theorem Mj{Z:Nat→α0→α1→α2→Prop}{Of:Nat→α0→α1→α2→List OE}{Gf:Nat→α0→α1→α2→mz}(h0: ∀x0 x1 x2,Z 0 x0 x1 x2→LG E Q c (Of 0 x0 x1 x2) (Gf 0 x0 x1 x2))(h: ∀n,(∀x0 x1 x2,Z n x0 x1 x2→LG E Q c (Of n x0 x1 x2) (Gf n x0 x1 x2))→ ∀x0 x1 x2,Z (n+1) x0 x1 x2→LG E Q c (Of (n+1) x0 x1 x2) (Gf (n+1) x0 x1 x2)): ∀n,∀x0 x1 x2,Z n x0 x1 x2→LG E Q c (Of n x0 x1 x2) (Gf n x0 x1 x2)
 |0=>h0
 |n+1=>h n (Mj h0 h n)
theorem NQ{x y:Code}{Z:α0→α1→α2→Prop}{Of:α0→α1→α2→List OE}{Gf:α0→α1→α2→mz}(hK: ∀x0 x1 x2,Z x0 x1 x2→CG E Q y (Of x0 x1 x2) (Gf x0 x1 x2))(h:(∀x0 x1 x2,Z x0 x1 x2→AT E (Exit.then (y.wpIn (fw E.r) 0 E.P Q) Q) .normal (Of x0 x1 x2) (Gf x0 x1 x2))→CG E (Exit.then (y.wpIn (fw E.r) 0 E.P Q) Q) x O G):CG E Q (.seq x y) O G:=ac (h (fun x0 x1 x2=>fun hz=>hK x0 x1 x2 hz))
theorem tH{Z:Nat→α0→α1→α2→α3→Prop}{Of:α0→α1→α2→α3→List OE}{Gf:α0→α1→α2→α3→mz}(h0: ∀x0 x1 x2 x3,Z 0 x0 x1 x2 x3→False)(h: ∀n,(∀x0 x1 x2 x3,Z n x0 x1 x2 x3→LG E Q c (Of x0 x1 x2 x3) (Gf x0 x1 x2 x3))→ ∀x0 x1 x2 x3,Z (n+1) x0 x1 x2 x3→LG E Q c (Of x0 x1 x2 x3) (Gf x0 x1 x2 x3)): ∀n,∀x0 x1 x2 x3,Z n x0 x1 x2 x3→LG E Q c (Of x0 x1 x2 x3) (Gf x0 x1 x2 x3)
 |0=>fun x0 x1 x2 x3 hz=>(h0 x0 x1 x2 x3 hz).elim
 |n+1=>h n (tH h0 h n)
theorem lZ{Z:List β→α0→α1→α2→α3→Prop}{Of:List β→α0→α1→α2→α3→List OE}{Gf:List β→α0→α1→α2→α3→mz}(h0: ∀x0 x1 x2 x3,Z [] x0 x1 x2 x3→LG E Q c (Of [] x0 x1 x2 x3) (Gf [] x0 x1 x2 x3))(h: ∀b l,(∀x0 x1 x2 x3,Z l x0 x1 x2 x3→LG E Q c (Of l x0 x1 x2 x3) (Gf l x0 x1 x2 x3))→ ∀x0 x1 x2 x3,Z (b::l) x0 x1 x2 x3→LG E Q c (Of (b::l) x0 x1 x2 x3) (Gf (b::l) x0 x1 x2 x3)): ∀l,∀x0 x1 x2 x3,Z l x0 x1 x2 x3→LG E Q c (Of l x0 x1 x2 x3) (Gf l x0 x1 x2 x3)
 |[]=>h0
 |b::l=>h b l (lZ h0 h l)
theorem NW{id:Nat}{Z:α0→α1→α2→α3→Prop}{Of:α0→α1→α2→α3→List OE}{Gf:α0→α1→α2→α3→mz}(hK: ∀x0 x1 x2 x3,Z x0 x1 x2 x3→AT E Q .normal (Of x0 x1 x2 x3) (Gf x0 x1 x2 x3))(h:(∀x0 x1 x2 x3,Z x0 x1 x2 x3→AT E Q .normal (Of x0 x1 x2 x3) (Gf x0 x1 x2 x3))→CG E (Exit.inBlock id Q) c O G):CG E Q (.block id c) O G:=ax (h hK)
theorem HA{Z:Nat→α0→α1→α2→α3→α4→Prop}{Of:α0→α1→α2→α3→α4→List OE}{Gf:α0→α1→α2→α3→α4→mz}(h0: ∀x0 x1 x2 x3 x4,Z 0 x0 x1 x2 x3 x4→False)(h: ∀n,(∀x0 x1 x2 x3 x4,Z n x0 x1 x2 x3 x4→LG E Q c (Of x0 x1 x2 x3 x4) (Gf x0 x1 x2 x3 x4))→ ∀x0 x1 x2 x3 x4,Z (n+1) x0 x1 x2 x3 x4→LG E Q c (Of x0 x1 x2 x3 x4) (Gf x0 x1 x2 x3 x4)): ∀n,∀x0 x1 x2 x3 x4,Z n x0 x1 x2 x3 x4→LG E Q c (Of x0 x1 x2 x3 x4) (Gf x0 x1 x2 x3 x4)
 |0=>fun x0 x1 x2 x3 x4 hz=>(h0 x0 x1 x2 x3 x4 hz).elim
 |n+1=>h n (HA h0 h n)
theorem vL{Z:List β→α0→α1→α2→α3→α4→Prop}{Of:List β→α0→α1→α2→α3→α4→List OE}{Gf:List β→α0→α1→α2→α3→α4→mz}(h0: ∀x0 x1 x2 x3 x4,Z [] x0 x1 x2 x3 x4→LG E Q c (Of [] x0 x1 x2 x3 x4) (Gf [] x0 x1 x2 x3 x4))(h: ∀b l,(∀x0 x1 x2 x3 x4,Z l x0 x1 x2 x3 x4→LG E Q c (Of l x0 x1 x2 x3 x4) (Gf l x0 x1 x2 x3 x4))→ ∀x0 x1 x2 x3 x4,Z (b::l) x0 x1 x2 x3 x4→LG E Q c (Of (b::l) x0 x1 x2 x3 x4) (Gf (b::l) x0 x1 x2 x3 x4)): ∀l,∀x0 x1 x2 x3 x4,Z l x0 x1 x2 x3 x4→LG E Q c (Of l x0 x1 x2 x3 x4) (Gf l x0 x1 x2 x3 x4)
 |[]=>h0
 |b::l=>h b l (vL h0 h l)
theorem Ml{Z:Nat→α0→α1→α2→α3→α4→α5→Prop}(h0: ∀x0 x1 x2 x3 x4 x5,Z 0 x0 x1 x2 x3 x4 x5→False)(h: ∀n,(∀x0 x1 x2 x3 x4 x5,Z n x0 x1 x2 x3 x4 x5→LG E Q c (Of x0 x1 x2 x3 x4 x5) (Gf x0 x1 x2 x3 x4 x5))→ ∀x0 x1 x2 x3 x4 x5,Z (n+1) x0 x1 x2 x3 x4 x5→LG E Q c (Of x0 x1 x2 x3 x4 x5) (Gf x0 x1 x2 x3 x4 x5)): ∀n,∀x0 x1 x2 x3 x4 x5,Z n x0 x1 x2 x3 x4 x5→LG E Q c (Of x0 x1 x2 x3 x4 x5) (Gf x0 x1 x2 x3 x4 x5)
 |0=>fun x0 x1 x2 x3 x4 x5 hz=>(h0 x0 x1 x2 x3 x4 x5 hz).elim
 |n+1=>h n (Ml h0 h n)
theorem Jv{Z:List β→α0→α1→α2→α3→α4→α5→Prop}{Of:List β→α0→α1→α2→α3→α4→α5→List OE}{Gf:List β→α0→α1→α2→α3→α4→α5→mz}(h0: ∀x0 x1 x2 x3 x4 x5,Z [] x0 x1 x2 x3 x4 x5→LG E Q c (Of [] x0 x1 x2 x3 x4 x5) (Gf [] x0 x1 x2 x3 x4 x5))(h: ∀b l,(∀x0 x1 x2 x3 x4 x5,Z l x0 x1 x2 x3 x4 x5→LG E Q c (Of l x0 x1 x2 x3 x4 x5) (Gf l x0 x1 x2 x3 x4 x5))→ ∀x0 x1 x2 x3 x4 x5,Z (b::l) x0 x1 x2 x3 x4 x5→LG E Q c (Of (b::l) x0 x1 x2 x3 x4 x5) (Gf (b::l) x0 x1 x2 x3 x4 x5)): ∀l,∀x0 x1 x2 x3 x4 x5,Z l x0 x1 x2 x3 x4 x5→LG E Q c (Of l x0 x1 x2 x3 x4 x5) (Gf l x0 x1 x2 x3 x4 x5)
 |[]=>h0
 |b::l=>h b l (Jv h0 h l)
theorem Gn{id:Nat}{Z:α0→α1→α2→α3→α4→α5→Prop}(hK: ∀x0 x1 x2 x3 x4 x5,Z x0 x1 x2 x3 x4 x5→AT E Q .normal (Of x0 x1 x2 x3 x4 x5) (Gf x0 x1 x2 x3 x4 x5))(h:(∀x0 x1 x2 x3 x4 x5,Z x0 x1 x2 x3 x4 x5→AT E Q .normal (Of x0 x1 x2 x3 x4 x5) (Gf x0 x1 x2 x3 x4 x5))→CG E (Exit.inBlock id Q) c O G):CG E Q (.block id c) O G:=ax (h hK)
theorem Gl{x y:Code}{Z:α0→α1→α2→α3→α4→α5→Prop}(hK: ∀x0 x1 x2 x3 x4 x5,Z x0 x1 x2 x3 x4 x5→CG E Q y (Of x0 x1 x2 x3 x4 x5) (Gf x0 x1 x2 x3 x4 x5))(h:(∀x0 x1 x2 x3 x4 x5,Z x0 x1 x2 x3 x4 x5→AT E (Exit.then (y.wpIn (fw E.r) 0 E.P Q) Q) .normal (Of x0 x1 x2 x3 x4 x5) (Gf x0 x1 x2 x3 x4 x5))→CG E (Exit.then (y.wpIn (fw E.r) 0 E.P Q) Q) x O G):CG E Q (.seq x y) O G:=ac (h (fun x0 x1 x2 x3 x4 x5=>fun hz=>hK x0 x1 x2 x3 x4 x5 hz))
theorem A4{Z:List β→α0→α1→α2→α3→α4→α5→α6→Prop}{Of:List β→α0→α1→α2→α3→α4→α5→α6→List OE}{Gf:List β→α0→α1→α2→α3→α4→α5→α6→mz}(h0: ∀x0 x1 x2 x3 x4 x5 x6,Z [] x0 x1 x2 x3 x4 x5 x6→LG E Q c (Of [] x0 x1 x2 x3 x4 x5 x6) (Gf [] x0 x1 x2 x3 x4 x5 x6))(h: ∀b l,(∀x0 x1 x2 x3 x4 x5 x6,Z l x0 x1 x2 x3 x4 x5 x6→LG E Q c (Of l x0 x1 x2 x3 x4 x5 x6) (Gf l x0 x1 x2 x3 x4 x5 x6))→ ∀x0 x1 x2 x3 x4 x5 x6,Z (b::l) x0 x1 x2 x3 x4 x5 x6→LG E Q c (Of (b::l) x0 x1 x2 x3 x4 x5 x6) (Gf (b::l) x0 x1 x2 x3 x4 x5 x6)): ∀l,∀x0 x1 x2 x3 x4 x5 x6,Z l x0 x1 x2 x3 x4 x5 x6→LG E Q c (Of l x0 x1 x2 x3 x4 x5 x6) (Gf l x0 x1 x2 x3 x4 x5 x6)
 |[]=>h0
 |b::l=>h b l (A4 h0 h l)
theorem BU{x y:Code}{Z:α0→α1→α2→α3→α4→α5→α6→Prop}{Of:α0→α1→α2→α3→α4→α5→α6→List OE}{Gf:α0→α1→α2→α3→α4→α5→α6→mz}(hK: ∀x0 x1 x2 x3 x4 x5 x6,Z x0 x1 x2 x3 x4 x5 x6→CG E Q y (Of x0 x1 x2 x3 x4 x5 x6) (Gf x0 x1 x2 x3 x4 x5 x6))(h:(∀x0 x1 x2 x3 x4 x5 x6,Z x0 x1 x2 x3 x4 x5 x6→AT E (Exit.then (y.wpIn (fw E.r) 0 E.P Q) Q) .normal (Of x0 x1 x2 x3 x4 x5 x6) (Gf x0 x1 x2 x3 x4 x5 x6))→CG E (Exit.then (y.wpIn (fw E.r) 0 E.P Q) Q) x O G):CG E Q (.seq x y) O G:=ac (h (fun x0 x1 x2 x3 x4 x5 x6=>fun hz=>hK x0 x1 x2 x3 x4 x5 x6 hz))
theorem Ju{α7:Type}{Z:List β→α0→α1→α2→α3→α4→α5→α6→α7→Prop}{Of:List β→α0→α1→α2→α3→α4→α5→α6→α7→List OE}{Gf:List β→α0→α1→α2→α3→α4→α5→α6→α7→mz}(h0: ∀x0 x1 x2 x3 x4 x5 x6 x7,Z [] x0 x1 x2 x3 x4 x5 x6 x7→LG E Q c (Of [] x0 x1 x2 x3 x4 x5 x6 x7) (Gf [] x0 x1 x2 x3 x4 x5 x6 x7))(h: ∀b l,(∀x0 x1 x2 x3 x4 x5 x6 x7,Z l x0 x1 x2 x3 x4 x5 x6 x7→LG E Q c (Of l x0 x1 x2 x3 x4 x5 x6 x7) (Gf l x0 x1 x2 x3 x4 x5 x6 x7))→ ∀x0 x1 x2 x3 x4 x5 x6 x7,Z (b::l) x0 x1 x2 x3 x4 x5 x6 x7→LG E Q c (Of (b::l) x0 x1 x2 x3 x4 x5 x6 x7) (Gf (b::l) x0 x1 x2 x3 x4 x5 x6 x7)): ∀l,∀x0 x1 x2 x3 x4 x5 x6 x7,Z l x0 x1 x2 x3 x4 x5 x6 x7→LG E Q c (Of l x0 x1 x2 x3 x4 x5 x6 x7) (Gf l x0 x1 x2 x3 x4 x5 x6 x7)
 |[]=>h0
 |b::l=>h b l (Ju h0 h l)
theorem Mi{α7 α8:Type}{Z:Nat→α0→α1→α2→α3→α4→α5→α6→α7→α8→Prop}{Of:Nat→α0→α1→α2→α3→α4→α5→α6→α7→α8→List OE}{Gf:Nat→α0→α1→α2→α3→α4→α5→α6→α7→α8→mz}(h0: ∀x0 x1 x2 x3 x4 x5 x6 x7 x8,Z 0 x0 x1 x2 x3 x4 x5 x6 x7 x8→LG E Q c (Of 0 x0 x1 x2 x3 x4 x5 x6 x7 x8) (Gf 0 x0 x1 x2 x3 x4 x5 x6 x7 x8))(h: ∀n,(∀x0 x1 x2 x3 x4 x5 x6 x7 x8,Z n x0 x1 x2 x3 x4 x5 x6 x7 x8→LG E Q c (Of n x0 x1 x2 x3 x4 x5 x6 x7 x8) (Gf n x0 x1 x2 x3 x4 x5 x6 x7 x8))→ ∀x0 x1 x2 x3 x4 x5 x6 x7 x8,Z (n+1) x0 x1 x2 x3 x4 x5 x6 x7 x8→LG E Q c (Of (n+1) x0 x1 x2 x3 x4 x5 x6 x7 x8) (Gf (n+1) x0 x1 x2 x3 x4 x5 x6 x7 x8)): ∀n,∀x0 x1 x2 x3 x4 x5 x6 x7 x8,Z n x0 x1 x2 x3 x4 x5 x6 x7 x8→LG E Q c (Of n x0 x1 x2 x3 x4 x5 x6 x7 x8) (Gf n x0 x1 x2 x3 x4 x5 x6 x7 x8)
 |0=>h0
 |n+1=>h n (Mi h0 h n)
end
theorem bs{α:Type _}{β:Type _}{x:Option α}{k:α→Option β}{r:β}(h:x.bind k=some r): ∃y,x=some y∧k y=some r:=by
 cases x with
 |none=>cases h
 |some y=>exact⟨y,rfl,h⟩
theorem ct{β:Type _}{x y:Option β}{r:β}(h:(if b=true then x else y)=some r)(hb:b=true):x=some r:=by rwa [bS hb]at h
theorem cf{β:Type _}{x y:Option β}{r:β}(h:(if b=true then x else y)=some r)(hb:b=false):y=some r:=by rwa [bM (by rw [hb];decide)]at h
theorem so{β:Type _}{x r:β}(h:some x=some r):x=r:=by simpa using h
theorem og [Inhabited α]{x:Option α}{k:α→Option β}{d:Option β}{r:β}(h:(if b=true then x.bind k else d)=some r): ∃y,(b=true→x=some y∧k y=some r)∧(b=false→d=some r):=by
 cases b with
 |true=>obtain⟨y,h1,h2⟩:=bs (ct h rfl);exact⟨y,fun _=>⟨h1,h2⟩,fun e=>(by cases e)⟩
 |false=>exact⟨default,fun e=>(by cases e),fun _=>cf h rfl⟩

def cN{α β:Type}(p:Rp α)(q:Rp β):Rp (α×β) where
 sz:=p.sz+q.sz
 agg:=true
 rc:=fun S cs x=> ∃a b,cs=a++b∧p.rc S a x.1∧q.rc S b x.2
 mono:=fun h ⟨a,b,e,h1,h2⟩=>⟨a,b,e,p.mono h h1,q.mono h h2⟩
 len:=fun⟨a,b,e,h1,h2⟩=>by rw [e,lw,p.len h1,q.len h2]
 one:=fun⟨a,b,e,h1,h2⟩ c hc=>by
  rw [e]at hc
  rcases wT.1 hc with h|h
  ·exact p.one h1 c h
  ·exact q.one h2 c h
 sc:=fun h=>by cases h
def nd{α β:Type}(p:Rp α)(f:β→α):Rp β where
 sz:=p.sz
 agg:=true
 rc:=fun S cs x=>p.rc S cs (f x)
 mono:=fun h k=>p.mono h k
 len:=fun h=>p.len h
 one:=fun h=>p.one h
 sc:=fun h=>by cases h
theorem cJ{p:Rp α}{f:β→α}:m9 (nd p f) 0 p f:=fun S cs x h=>by
 have h' :p.rc S cs (f x):=h
 have hl:=p.len h'
 rw [sM,←hl,BZ];exact h'
theorem dH{γ:Type}{p:Rp α}{q:Rp β}{r:Rp γ}{get:γ→α×β}(h:m9 r off (cN p q) get):m9 r off p (fun x=>(get x).1):=fun S cs x k=>by
 obtain⟨a,b,e,h1,h2⟩:=h S cs x k
 have hl:=p.len h1
 have hl2:=q.len h2
 have:(cs.drop off).take p.sz=a:=by
  have e2:=congrArg (List.take p.sz) e
  rw [Ba,Bc (by show p.sz≤p.sz+q.sz;omega),←hl,List.take_left]at e2
  rw [←hl];exact e2
 rw [this];exact h1
theorem aY{γ:Type}{p:Rp α}{q:Rp β}{r:Rp γ}{off' :Nat}{get:γ→α×β}(h:m9 r off (cN p q) get)(ho:off' =off+p.sz):m9 r off' q (fun x=>(get x).2):=fun S cs x k=>by
 obtain⟨a,b,e,h1,h2⟩:=h S cs x k
 have hl:=p.len h1
 have hl2:=q.len h2
 have:(cs.drop off').take q.sz=b:=by
  have e2:=congrArg (List.drop p.sz) e
  rw [xe,va,←hl,List.drop_left]at e2
  rw [ho,←hl,←e2]
  congr 1
  show q.sz=p.sz+q.sz-a.length
  omega
 rw [this];exact h2

section
variable{E:En}
theorem Sv{op:Op}{ty:TypeId}(hj:(ops[j]?).bind (·.dst)=some gs)(hgs:Nat.blt gs E.N.n=true)(hg:look G gs=some (tD rB b))(hd:Nat.blt d E.N.n=true)(h:b=true→cH E O G ⟨some d,op,ty,pos,after,some (j,true)⟩ t)(k:RG E ops Q rest O ((d,qw b t)::G)):RG E ops Q (⟨some d,op,ty,pos,after,some (j,true)⟩::rest) O G:=by
 have e:(true&&(b==true))=b:=by cases b<;>rfl
 exact Hx hj hgs (qm hg) hd (by rw [e];exact h) (by rw [e];exact k)
theorem Sw{op:Op}{ty:TypeId}(hj:(ops[j]?).bind (·.dst)=some gs)(hgs:Nat.blt gs E.N.n=true)(hg:look G gs=some (tD rB b))(hd:Nat.blt d E.N.n=true)(h:(!b)=true→cH E O G ⟨some d,op,ty,pos,after,some (j,false)⟩ t)(k:RG E ops Q rest O ((d,qw (!b) t)::G)):RG E ops Q (⟨some d,op,ty,pos,after,some (j,false)⟩::rest) O G:=by
 have e:(true&&(b==false))= !b:=by cases b<;>rfl
 exact Hx hj hgs (qm hg) hd (by rw [e];exact h) (by rw [e];exact k)
theorem d3{c:Bool}{op:Op}{ty:TypeId}(hj:(ops[j]?).bind (·.dst)=some gs)(hgs:Nat.blt gs E.N.n=true)(hg:look G gs=some (qw c (tD rB b)))(hd:Nat.blt d E.N.n=true)(h:(c&&b)=true→cH E O G ⟨some d,op,ty,pos,after,some (j,true)⟩ t)(k:RG E ops Q rest O ((d,qw (c&&b) t)::G)):RG E ops Q (⟨some d,op,ty,pos,after,some (j,true)⟩::rest) O G:=by
 have e:(c&&(b==true))=(c&&b):=by cases b<;>rfl
 exact Hx hj hgs (BC hg) hd (by rw [e];exact h) (by rw [e];exact k)
theorem ee{c:Bool}{op:Op}{ty:TypeId}(hj:(ops[j]?).bind (·.dst)=some gs)(hgs:Nat.blt gs E.N.n=true)(hg:look G gs=some (qw c (tD rB b)))(hd:Nat.blt d E.N.n=true)(h:(c&& !b)=true→cH E O G ⟨some d,op,ty,pos,after,some (j,false)⟩ t)(k:RG E ops Q rest O ((d,qw (c&& !b) t)::G)):RG E ops Q (⟨some d,op,ty,pos,after,some (j,false)⟩::rest) O G:=by
 have e:(c&&(b==false))=(c&& !b):=by cases b<;>rfl
 exact Hx hj hgs (BC hg) hd (by rw [e];exact h) (by rw [e];exact k)
theorem dn{l:List Oper}{need:mz}(hg:o.guard=some (j,true))(hj:((l.toArray)[j]?).bind (·.dst)=some gs)(hgs:Nat.blt gs E.N.n=true)(hb:look need gs=some (tD rB b))(h:b=true→cH E O need o t):bw E O l.toArray need o (qw b t):=by
 have e:(true&&(b==true))=b:=by cases b<;>rfl
 have:=xX (t:=t) hg hj hgs (qm (E:=E) hb) (by rw [e];exact h)
 rwa [e]at this
theorem dx{l:List Oper}{need:mz}(hg:o.guard=some (j,false))(hj:((l.toArray)[j]?).bind (·.dst)=some gs)(hgs:Nat.blt gs E.N.n=true)(hb:look need gs=some (tD rB b))(h:(!b)=true→cH E O need o t):bw E O l.toArray need o (qw (!b) t):=by
 have e:(true&&(b==false))= !b:=by cases b<;>rfl
 have:=xX (t:=t) hg hj hgs (qm (E:=E) hb) (by rw [e];exact h)
 rwa [e]at this
theorem pR{l:List Oper}{need:mz}{c:Bool}(hg:o.guard=some (j,true))(hj:((l.toArray)[j]?).bind (·.dst)=some gs)(hgs:Nat.blt gs E.N.n=true)(hb:look need gs=some (qw c (tD rB b)))(h:(c&&b)=true→cH E O need o t):bw E O l.toArray need o (qw (c&&b) t):=by
 have e:(c&&(b==true))=(c&&b):=by cases b<;>rfl
 have:=xX (t:=t) hg hj hgs (BC (E:=E) hb) (by rw [e];exact h)
 rwa [e]at this
theorem tF{a:Bool}(h:a=true)(k:b=true):(a&&b)=true:=by rw [h,k];rfl
theorem nZ{a:Bool}(h:a=false):(!a)=true:=by rw [h];rfl
theorem bO{c:Operand}{x y:Code}(hb:aZ E.N G c (tD rB b))(h:b=true)(hx:CG E Q x O G):CG E Q (.cond c x y) O G:=qT hb (fun _=>hx) (fun e=>by rw [h]at e;cases e)
theorem bP{c:Operand}{x y:Code}(hb:aZ E.N G c (tD rB b))(h:b=false)(hy:CG E Q y O G):CG E Q (.cond c x y) O G:=qT hb (fun e=>by rw [h]at e;cases e) (fun _=>hy)
end
theorem OR [Inhabited α]{x:Option α}{k:α→Option β}{r:β}(h:b=true→x.bind k=some r): ∃y,b=true→x=some y∧k y=some r:=by
 cases b with
 |true=>obtain⟨y,h1,h2⟩:=bs (h rfl);exact⟨y,fun _=>⟨h1,h2⟩⟩
 |false=>exact⟨default,fun e=>(by cases e)⟩
section
variable{E:En}{ty:TypeId}
theorem km{c:Operand}(hc:aZ E.N G c (tD rB b))(hx:b=true→aZ E.N G x (tD rB q)):cH E O G ⟨dst,.pick c x (.const (.bool false)),ty,pos,after,g⟩ (tD rB (b&&q)):=by
 refine yq hc (fun h=>?_) (fun h=>?_)
 ·subst h;exact hx rfl
 ·subst h;exact hB
theorem ql{c:Operand}(hc:aZ E.N G c (tD rB b))(hx:b=false→aZ E.N G x (tD rB q)):cH E O G ⟨dst,.pick c (.const (.bool true)) x,ty,pos,after,g⟩ (tD rB (b||q)):=by
 refine yq hc (fun h=>?_) (fun h=>?_)
 ·subst h;exact hB
 ·subst h;exact hx rfl
theorem cS{c:Operand}{t:Bool}(hc:aZ E.N G c (tD rB b))(hx:b=true→aZ E.N G x (tD rB q))(e1:b=true→some q=some t)(e0:b=false→some false=some t):cH E O G ⟨dst,.pick c x (.const (.bool false)),ty,pos,after,g⟩ (tD rB t):=by
 refine yq hc (fun h=>?_) (fun h=>?_)
 ·rw [←so (e1 h)];exact hx h
 ·rw [←so (e0 h)];exact hB
theorem dj{c:Operand}{t:Bool}(hc:aZ E.N G c (tD rB b))(hx:b=false→aZ E.N G x (tD rB q))(e1:(!b)=true→some q=some t)(e0:(!b)=false→some true=some t):cH E O G ⟨dst,.pick c (.const (.bool true)) x,ty,pos,after,g⟩ (tD rB t):=by
 refine yq hc (fun h=>?_) (fun h=>?_)
 ·rw [←so (e0 (by rw [h];rfl))];exact hB
 ·rw [←so (e1 (by rw [h];rfl))];exact hx h
theorem D4(hi:ts[i]? =some t)(hx:aZ E.N G x (tT ts)):cH E O G ⟨dst,.extract x i,ty,pos,after,g⟩ t:=
 .of_pure fun a w S _ _ hf=>by
  obtain⟨vs,h1,h2⟩:=hx S a hf
  obtain⟨v,h3,h4⟩:=h2.at_ i t hi
  exact⟨v,by simp [execOp,h1,Instr.extract,h3],h4⟩
theorem GU{k:IntKind}{m n:Int}(hx:aZ E.N G x (tD (rI k) m))(hy:aZ E.N G y (tD (rI k) n)):cH E O G ⟨dst,.call ⟨.builtin .max,#[x,y],ats⟩,ty,pos,after,g⟩ (tD (rI k) (max m n)):=
 .of_pure fun a w S _ _ hf=>by
  have h1:a.eval x= .int k m:=fe.1 (hx S a hf)
  have h2:a.eval y= .int k n:=fe.1 (hy S a hf)
  refine⟨.int k (if n>m then n else m),by simp [execOp,resolve,invoke,builtin,Builtin.max_,Builtin.max2,h1,h2],fe.2 ?_⟩
  congr 1
  rw [Int.max_def]
  split<;>split<;>omega
theorem Lo{k:IntKind}{m n:Int}(hx:aZ E.N G x (tD (rI k) m))(hy:aZ E.N G y (tD (rI k) n)):cH E O G ⟨dst,.call ⟨.builtin .min,#[x,y],ats⟩,ty,pos,after,g⟩ (tD (rI k) (min m n)):=
 .of_pure fun a w S _ _ hf=>by
  have h1:a.eval x= .int k m:=fe.1 (hx S a hf)
  have h2:a.eval y= .int k n:=fe.1 (hy S a hf)
  refine⟨.int k (if n<m then n else m),by simp [execOp,resolve,invoke,builtin,Builtin.min_,Builtin.min2,h1,h2],fe.2 ?_⟩
  congr 1
  rw [Int.min_def]
  split<;>split<;>omega

def kz(P:Program){α β:Type}(args:α→List Ty)(res:β→Ty)(f:α→Option β):Ty where
 p:=fun S v=> ∃fid cap,v= .func (.func fid) #[] cap∧av P fid=true∧ ∀x y,f x=some y→ ∀w S' vs,SH.le S S' →jU w S' →wZ S' (args x) vs→
  Calls P fid (vs.toArray++cap) w fun e w' => ∃v S'',e= .returned v∧gW qq w S' w' S'' ∧jU w' S'' ∧(res y).p S'' v
 mono:=fun h ⟨f,cap,e,hc,k⟩=>⟨f,cap,e,hc,fun x y hxy w S' vs hle=>k x y hxy w S' vs (SH.le_trans h hle)⟩
theorem T4{N:Fr}{P:Program}{f:α→Option β}{fid:FuncId}(hc:av P fid=true)(hs: ∀x y,f x=some y→bo P fid (args x) (res y)):aZ N G (.func fid) (kz P args res f):=fun S a _=>
 ⟨fid,#[],rfl,hc,fun x y h w S' vs _ hsat hv=>by simpa using hs x y h w S' vs hsat hv⟩
theorem wZ.append: ∀{ts us:List Ty} {vs ws:List Value},wZ S ts vs→wZ S us ws→wZ S (ts++us) (vs++ws)
 |[],_,[],_,_,h=>h
 |_::_,_,_::_,_,⟨h1,h2⟩,h=>⟨h1,wZ.append h2 h⟩
theorem sx{f:α→Option β}{fid:FuncId}{caps:List Operand}{cts:List Ty}(hc:av E.P fid=true)(hcap:jE E.N G caps cts)(hs: ∀x y,f x=some y→bo E.P fid (args x++cts) (res y)):cH E O G ⟨dst,.makeFunc (.func fid) #[] caps.toArray,ty,pos,after,g⟩ (kz E.P args res f):=
 .of_pure fun a w S _ _ hf=>by
  refine⟨.func (.func fid) #[] (caps.map a.eval).toArray,by simp [execOp,Instr.makeFunc],fid,_,rfl,hc,fun x y h w' S' vs hle hsat hv=>?_⟩
  have hcv:=(hcap.tys hf).mono hle
  simpa using hs x y h w' S' _ hsat (hv.append hcv)
theorem lS{f:α→Option β}{fo:Operand}{x:α}{y:β}{xs:List Operand}(hfo:aZ E.N G fo (kz E.P args res f))(h:f x=some y)(hx:jE E.N G xs (args x)):
  cH E O G ⟨dst,.call ⟨.value fo,xs.toArray,ats⟩,ty,pos,after,g⟩ (res y):=fun a w S hS _ hF=>by
 obtain⟨fid,cap,e,hc,hs⟩:=hfo S a hF
 have hr:(execOp a.eval ⟨dst,.call ⟨.value fo,xs.toArray,ats⟩,ty,pos,after,g⟩).run E.P w= .ok (.enter fid ((xs.map a.eval).toArray++cap)) w:=by
  simp [execOp,resolve,e,Deferred.ofValue,invoke,gL hc]
 refine⟨fun c h=>(by cases h),?_⟩
 rw [hr]
 exact(hs x y h w S _ (SH.le_refl _) hS (hx.tys hF)).mono fun e w' ⟨v,S',he,h1,h2,h3⟩=>⟨v,he,v,S',rfl,h1,h2,h3⟩
end
theorem bo.of{P:Program}{N:Nat}(hf:P.funcs[f]? =some fn)(hb:fn.body=some c)(hN:fn.ntmps=N)(hn:Nat.ble ts.length N=true)(h: ∀w0 S0,CG ⟨P,⟨N,[]⟩,qq,w0,S0,none⟩ (bodyPost P fn (I8 ⟨P,⟨N,[]⟩,qq,w0,S0,none⟩ t)) c [] (uT 0 ts)):bo P f ts t:=by
 subst hN
 exact Hv hf hb (pT hn) h
theorem nn{α:Type _}{r:α}(h:(none:Option α)=some r):False:=by cases h
theorem s6{N:Fr}:aZ N G (.const (.slice none 0 0)) (tV (aV none 0 0)):=fun _ _ _=>rfl
def cZ:Nat:=2^64
section
variable{E:En}{ty:TypeId}
theorem Kg(l:Option Nat)(cap n:Nat)(h:l=none→n=0): ∃a c,aV l cap n= .slice a n c:=by
 cases l with
 |none=>rw [h rfl];exact⟨none,0,rfl⟩
 |some b=>exact⟨_,cap,rfl⟩
theorem gQ{r:Rp α}{n:Nat}{t:TypeId}(ht:E.P.underlying t=some (.slice e))(hm:m6 mm r T l cap xs∈O)(hx:aZ E.N G x (tV (aV l cap n)))(hn:n=xs.length:=by rfl):
  cH E O G ⟨dst,.call ⟨.builtin .len,#[x],#[t]⟩,ty,pos,after,g⟩ (tD (rI .i64) (n:Int)):=
 .of_pure fun a w S _ ho hf=>by
  have h1:a.eval x=aV l cap n:=hx S a hf
  have h2:=(ho.mem _ hm).1
  obtain⟨ad,c,h3⟩:=Kg l cap n (fun e=>by subst e;obtain⟨_,h4,_⟩:=h2;rw [hn];exact h4.1)
  refine⟨.int .i64 n,?_,fe.2 rfl⟩
  simp [execOp,resolve,invoke,builtin,Builtin.len_,kH ht,h1,h3,goInt]
end

structure Mr(P:Program){α:Type} [DecidableEq α](t:TypeId)(r:Rp α):Prop where
 guard:P.eqGuardType P.depth t=false
 run: ∀(S:SH) (cs ds:List Value) (x y:α) (d:Nat) (w:World),r.rc S cs x→r.rc S ds y→(Op.equalIn (d+20) t (r.val cs) (r.val ds)).run P w= .ok (decide (x=y)) w
section
variable{E:En}{ty:TypeId}
theorem Cn{P:Program}{t:TypeId}(h:P.eqGuardType P.depth t=false){op:BinOp}{x y:Operand}{u v:Array Value}{w:World}:(eqGuard op t x y (.agg u) (.agg v)).run P w= .ok () w:=by
 unfold eqGuard
 cases op<;>first|rfl|simp [h]
theorem td{r:Rp α}(h:r.agg=true)(cs:List Value):r.val cs= .agg cs.toArray:=by unfold Rp.val;rw [bS h]
theorem Az [DecidableEq α]{r:Rp α}{m n:α}(he:Mr E.P xt r)(hx:aZ E.N G x (tD r m))(hy:aZ E.N G y (tD r n))(ha:r.agg=true:=by rfl):cH E O G ⟨dst,.binOp .eql xt x y yt,ty,pos,after,g⟩ (tD rB (decide (m=n))):=
 .of_pure fun a w S _ _ hf=>by
  obtain⟨cs,h1,h2⟩:=hx S a hf
  obtain⟨ds,h3,h4⟩:=hy S a hf
  refine⟨.bool (decide (m=n)),?_,ju.2 rfl⟩
  have hr:=he.run S cs ds m n 9980 w h2 h4
  have hg:= @Cn E.P xt he.guard .eql x y cs.toArray ds.toArray w
  rw [td ha,td ha]at hr
  simp only [execOp,h1,h3,td ha,qV,hg,rY,binOp,Op.equal,Op.maxDepth]
  rw [show(10000:Nat)=9980+20 from rfl,hr]
  simp
theorem C2 [DecidableEq α]{r:Rp α}{m n:α}(he:Mr E.P xt r)(hx:aZ E.N G x (tD r m))(hy:aZ E.N G y (tD r n))(ha:r.agg=true:=by rfl):cH E O G ⟨dst,.binOp .neq xt x y yt,ty,pos,after,g⟩ (tD rB (!decide (m=n))):=
 .of_pure fun a w S _ _ hf=>by
  obtain⟨cs,h1,h2⟩:=hx S a hf
  obtain⟨ds,h3,h4⟩:=hy S a hf
  refine⟨.bool (!decide (m=n)),?_,ju.2 rfl⟩
  have hr:=he.run S cs ds m n 9980 w h2 h4
  have hg:= @Cn E.P xt he.guard .neq x y cs.toArray ds.toArray w
  rw [td ha,td ha]at hr
  simp only [execOp,h1,h3,td ha,qV,hg,rY,binOp,Op.equal,Op.maxDepth]
  rw [show(10000:Nat)=9980+20 from rfl,hr]
  simp
end
end Go.Proofs.YtnmjbolollcokaaGreatDoor

