/- cU of this claim: W1, W49, W2, W3, W4, W5, W6, W7, W8, W9, W10, W11, W12, W13, W14. -/
import Derived.WalkKit
import Derived.Orders
import Derived.Lone
import Derived.RunT
import Derived.Calls
import Derived.RangeFuncIn
import Derived.TacticsIn
import Derived.OrdersIn
import Derived.LoopIn
import Derived.Laws.AppendOwn
import Derived.Deep.Upon
import Derived.Lib.AppendStr
import Derived.IntWalk
set_option linter.all false
-- TABI
namespace Go.Proofs.YtfhhakidodmdfaaGreatDoor
open Go
def be:= @Option.bind_some
def aK:= @if_neg
def aY:= @if_pos
def kN:= @List.mem_cons_of_mem
def kZ:= @List.mem_cons_self
def oM:= @List.getElem?_eq_getElem
def kM:= @decide_eq_true_eq
def my:= @Bool.and_eq_true
def gm:= @Bool.false_eq_true
def ke:= @List.getElem?_eq_some_iff
def dh:= @Nat.le_refl
def jg:= @List.length_append
def fx:= @List.mem_cons
def iY:= @List.length_cons
def jX:= @List.append_assoc
def jW:= @List.all_eq_true
def kz:= @List.nil_append
def d9:= @if_false
def o7:= @Nat.eq_of_beq_eq_true
def pw:= @Nat.le_of_ble_eq_true
def uD:= @List.eq_nil_of_length_eq_zero
def tA:= @List.getElem?_append_right
def eg:= @if_true
def lY:= @run_underlying
def sK:= @List.take_of_length_le
def rO:= @List.mem_of_getElem?
def mL:= @Bool.not_true
def wp:= @Array.getElem?_eq_some_iff
def p5:= @Option.some.inj
def lS:= @Nat.zero_le
def pZ:= @Bool.or_eq_true
def pY:= @List.length_nil
def nW:= @Nat.lt_or_ge
def rN:= @Bool.eq_false_iff
def xL:= @List.drop_eq_getElem_cons
def wo:= @Option.map_eq_some_iff
def wn:= @List.take_append_drop
def qL:= @List.drop_drop
def Ao:= @List.getElem?_append_left
def sw:= @List.append_nil
def An:= @Array.getElem?_replicate
def uC:= @IntKind.wrap_u64
def uB:= @List.any_eq_true
def DP:= @List.take_append_of_le_length
def rM:= @Bool.false_or
def qS:= @Nat.zero_add
def Am:= @List.length_singleton
def Ch:= @List.getElem?_take_of_lt
def xK:= @List.getElem?_drop
def xJ:= @Nat.lt_of_lt_of_le
def wl:= @List.cons_append
def wk:= @IntKind.wrap_i64
def DO:= @decide_eq_false_iff_not
def u9:= @Bool.true_and
def zB:= @Result.andThen_ok
def qR:= @bne_iff_ne
def DN:= @List.drop_eq_nil_of_le
def Cg:= @Nat.mul_le_mul_right
def xG:= @decide_eq_false
def xu:= @Nat.mul_le_mul
def A3:= @List.mem_singleton
def sv:= @beq_iff_eq
def wj:= @getD_set_true
def Et:= @List.drop_of_length_le
def Al:= @Bool.not_eq_true
def zA:= @List.mem_append
def xF:= @decide_eq_true
def A2:= @Int.toNat_natCast
def Cf:= @List.pairwise_cons
def u8:= @Nat.add_mul
def Gs:= @List.getElem?_cons_zero
def zz:= @List.drop_zero
def xE:= @List.all_cons
def xr:= @Sem.run_bind
def JP:= @Array.getD_eq_getD_getElem?
def Ak:= @Bool.not_false
def AZ:= @Bool.eq_iff_iff
def DM:= @Bool.not_eq_true'
def xD:= @Nat.add_zero
def zy:= @Nat.sub_self
def Ce:= @List.take_take
def Ib:= @List.drop_eq_nil_iff
def xq:= @Nat.blt_eq
def JO:= @Nat.div_div_eq_div_mul
def Es:= @Nat.lt_succ_self
def xQ:= @List.take_length
def Hc:= @List.drop_append_of_le_length
def zP:= @bne_self_eq_false
def vu:= @List.any_cons
def vt:= @List.map_cons
def Dd:= @List.length_replicate
def xP:= @Int.natCast_mul
def xO:= @Nat.min_eq_left
def EA:= @Int.eq_ofNat_of_zero_le
def Dc:= @Bool.and_eq_true_iff
def J0:= @List.take_succ_eq_append_getElem
def zO:= @List.length_take
def vq:= @List.mem_map
def xN:= @heap_alloc_new
def A9:= @Option.some.injEq
def Ez:= @List.getElem?_eq_none
def vp:= @getD_set_ne
def xM:= @Bool.and_true
def Da:= @not_false_eq_true
def C9:= @List.getElem?_map
def A7:= @Int.natCast_add
def tB:= @mem_ready
def Ey:= @Array.length_toList
def vo:= @Nat.mod_lt
def C8:= @Nat.mod_eq_of_lt
def A6:= @List.drop_take
def Hb:= @List.singleton_append
def Ha:= @List.mem_append_left
def zN:= @Nat.le_trans
def G9:= @List.getElem?_set_ne
def C7:= @List.length_map
def G8:= @List.map_congr_left
def Ex:= @List.length_drop
def JZ:= @List.dropWhile_sublist
def A5:= @Nat.le_of_eq
def Ew:= @List.mem_filter
def o8:= @ne_eq
def JW:= @List.length_filter_le
def JV:= @List.contains_iff_mem
def G6:= @List.size_toArray
def G5:= @not_true_eq_false
def JU:= @of_decide_eq_true
def Ev:= @Bool.false_and
def G4:= @beq_self_eq_true
def C6:= @decide_eq_decide
def G3:= @Option.getD_some
def G2:= @List.not_mem_nil
def OA:= @List.getElem?_cons_succ
def Eu:= @callsIn_of_wp
def G1:= @List.all_append
def G0:= @List.any_append
def Oz:= @Array.toList_replicate
def C5:= @decide_true
def Oy:= @MapKept.run_getObj_map
def JT:= @List.ext_getElem?
def JR:= @List.any_eq_false
def GZ:= @Bool.and_assoc
def Ox:= @List.countP_replicate
def Ow:= @UInt8.lt_iff_toNat_lt
def Ov:= @MapKept.run_checkKey
def JQ:= @List.getElem_mem
def GY:= @List.cons.inj

def KS:Obj→Obj→Prop
 | .cells c E fr,o' => ∃d:List Value,o' = .cells (c.toList++d).toArray E fr
 |o,o' =>o' =o
variable{o:Oper}
theorem vL(o:Obj):KS o o:=by
 cases o<;>first|rfl|exact⟨[],by simp⟩
variable{c:Code}{cells:List Value}{d:Nat}{fr:Nat×Nat}{k:Nat}{o' :Obj}
theorem Hv{o o'' :Obj}(h:KS o o')(k:KS o' o''):KS o o'' :=by
 cases o with
 |cells c E fr=>
  obtain⟨d,rfl⟩:=h
  obtain⟨d',rfl⟩:=k
  exact⟨d++d',by simp⟩
 |_=>cases h;exact k
variable{off:Nat}
theorem Fo{c:Array Value}{E:TypeId}(h:KS (.cells c E fr) o'){n:Nat}(hl:((c.toList.drop off).take n).length=n):
  ∃c',o' = .cells c' E fr∧(c'.toList.drop off).take n=(c.toList.drop off).take n:=by
 obtain⟨d,rfl⟩:=h
 refine⟨_,rfl,?_⟩
 by_cases hn:n=0
 ·subst hn;simp
 simp only [zO,Ex]at hl
 rw [Hc (by omega),DP (by simp only [Ex];omega)]
abbrev SH:=Nat→Option Obj
def SH.le(S S' :SH):Prop:= ∀b o,S b=some o→ ∃o',S' b=some o' ∧KS o o'
variable{S:SH}
theorem SH.le_refl(S:SH):SH.le S S:=fun _ o h=>⟨o,h,vL o⟩
variable{S' S'' :SH}{b:Bool}{e:TypeId}
theorem SH.le_trans(h:SH.le S S')(k:SH.le S' S''):SH.le S S'' :=fun b o e=>let⟨o',h1,h2⟩:=h b o e;let⟨o'',h3,h4⟩:=k b o' h1;⟨o'',h3,Hv h2 h4⟩
structure Ty where
 p:SH→Value→Prop
 mono: ∀{S S' :SH} {v:Value},SH.le S S' →p S v→p S' v

structure Rp(α:Type) where
 sz:Nat
 agg:Bool
 rc:SH→List Value→α→Prop
 mono: ∀{S S' :SH} {cs:List Value} {x:α},SH.le S S' →rc S cs x→rc S' cs x
 len: ∀{S:SH} {cs:List Value} {x:α},rc S cs x→cs.length=sz
 one: ∀{S:SH} {cs:List Value} {x:α},rc S cs x→ ∀c∈cs,c.oneCell' =true
 sc:agg=false→sz=1

def Rp.val{α:Type}(r:Rp α)(cs:List Value):Value:=if r.agg then .agg cs.toArray else cs.headD undef

def tD{α:Type}(r:Rp α)(x:α):Ty where
 p:=fun S v=> ∃cs,v=r.val cs∧r.rc S cs x
 mono:=fun h ⟨cs,e,k⟩=>⟨cs,e,r.mono h k⟩

def DW:Ty where
 p:=fun _ _=>True
 mono:=fun _ _=>trivial

def tV(u:Value):Ty where
 p:=fun _ v=>v=u
 mono:=fun _ h=>h

def rI(k:IntKind):Rp Int where
 sz:=1
 agg:=false
 rc:=fun _ cs x=>cs=[.int k x]
 mono:=fun _ h=>h
 len:=fun h=>by rw [h];rfl
 one:=fun h c hc=>by subst h;simp at hc;subst hc;rfl
 sc:=fun _=>rfl

def rB:Rp Bool where
 sz:=1
 agg:=false
 rc:=fun _ cs x=>cs=[.bool x]
 mono:=fun _ h=>h
 len:=fun h=>by rw [h];rfl
 one:=fun h c hc=>by subst h;simp at hc;subst hc;rfl
 sc:=fun _=>rfl

abbrev xC:=List UInt8
def rS:Rp xC where
 sz:=1
 agg:=false
 rc:=fun _ cs x=>cs=[.string ⟨x.toArray⟩]
 mono:=fun _ h=>h
 len:=fun h=>by rw [h];rfl
 one:=fun h c hc=>by subst h;simp at hc;subst hc;rfl
 sc:=fun _=>rfl

variable{cs:List Value}{v:Value}
theorem di{k:IntKind}{n:Int}:(tD (rI k) n).p S v↔v= .int k n:=by
 constructor
 ·rintro⟨cs,rfl,h⟩;have h' :cs=[.int k n]:=h;subst h';rfl
 ·rintro rfl;exact⟨[.int k n],rfl,rfl⟩
theorem i8:(tD rB b).p S v↔v= .bool b:=by
 constructor
 ·rintro⟨cs,rfl,h⟩;have h' :cs=[.bool b]:=h;subst h';rfl
 ·rintro rfl;exact⟨[.bool b],rfl,rfl⟩
variable{s:xC}
theorem Cm:(tD rS s).p S v↔v= .string ⟨s.toArray⟩:=by
 constructor
 ·rintro⟨cs,rfl,h⟩;have h' :cs=[.string ⟨s.toArray⟩]:=h;subst h';rfl
 ·rintro rfl;exact⟨[.string ⟨s.toArray⟩],rfl,rfl⟩

def vf{α:Type}(r:Rp α)(S:SH):List Value→List α→Prop
 |cs,[]=>cs=[]
 |cs,x::xs=> ∃a b,cs=a++b∧r.rc S a x∧vf r S b xs
variable{a:Act}{α:Type}{xs:List α}
theorem tY{α:Type}{r:Rp α}{S S' :SH}(h:SH.le S S'): ∀{xs:List α} {cs:List Value},vf r S cs xs→vf r S' cs xs
 |[],_,k=>k
 |_::_,_,⟨a,b,e,h1,h2⟩=>⟨a,b,e,r.mono h h1,tY h h2⟩
variable{x:Operand}
theorem pq{α:Type}{r:Rp α}{S:SH}: ∀{xs:List α} {cs:List Value},vf r S cs xs→cs.length=xs.length*r.sz
 |[],_,k=>by rw [show _=_ from k];simp
 |x::xs,_,⟨a,b,e,h1,h2⟩=>by rw [e,jg,r.len h1,pq h2,iY,u8];omega
theorem D7{α:Type}{r:Rp α}{S:SH}: ∀{xs:List α} {cs:List Value},vf r S cs xs→ ∀c∈cs,c.oneCell' =true
 |[],_,k,c,hc=>by rw [show _=_ from k]at hc;cases hc
 |x::xs,_,⟨a,b,e,h1,h2⟩,c,hc=>by
  rw [e]at hc
  rcases zA.1 hc with h|h
  ·exact r.one h1 c h
  ·exact D7 h2 c h
variable{ys:List α}
theorem wH{α:Type}{r:Rp α}{S:SH}: ∀{xs ys:List α} {cs ds:List Value},vf r S cs xs→vf r S ds ys→vf r S (cs++ds) (xs++ys)
 |[],_,_,_,k,h=>by rw [show _=_ from k];exact h
 |_::_,_,_,_,⟨a,b,e,h1,h2⟩,h=>⟨a,_,by rw [e,jX],h1,wH h2 h⟩
theorem qZ{α:Type}{r:Rp α}{S:SH}: ∀{xs ys:List α} {cs:List Value},vf r S cs (xs++ys)→
  vf r S (cs.take (xs.length*r.sz)) xs∧vf r S (cs.drop (xs.length*r.sz)) ys
 |[],_,_,k=>by simp [vf];exact k
 |x::xs,ys,cs,⟨a,b,e,h1,h2⟩=>by
  have hl:=r.len h1
  have ih:=qZ h2
  have e1:(x::xs).length*r.sz=a.length+xs.length*r.sz:=by rw [hl,iY,u8];omega
  rw [e,e1,List.take_length_add_append,List.drop_length_add_append]
  exact⟨⟨a,_,rfl,h1,ih.1⟩,ih.2⟩
theorem Nh{r:Rp α}{x:α}:vf r S cs [x]↔r.rc S cs x:=by
 constructor
 ·rintro⟨a,b,rfl,h,hb⟩
  rw [show b=[]from hb,sw];exact h
 ·intro h;exact⟨cs,[],by simp,h,rfl⟩
variable{i:Nat}
theorem D8{r:Rp α}(h:vf r S cs xs){x:α}(hx:xs[i]? =some x):
  r.rc S ((cs.drop (i*r.sz)).take r.sz) x:=by
 have hi:i<xs.length:=(ke.1 hx).1
 have e:xs=xs.take i++(x::xs.drop (i+1)):=by
  have:=ke.1 hx
  rw [←this.2,←xL hi,wn]
 have hl:(xs.take i).length=i:=by simp;omega
 rw [e]at h
 have h2:=(qZ h).2
 rw [hl]at h2
 obtain⟨a,b,e2,h3,_⟩:=h2
 rw [e2,←r.len h3,List.take_left]
 exact h3

def Kt{α:Type}(r:Rp α)(S:SH)(a:Option Addr)(xs:List α):Prop:=
 xs=[]∨ ∃b off c E fr,a=some ⟨b,off,none⟩∧S b=some (.cells c E fr)∧vf r S ((c.toList.drop off).take (xs.length*r.sz)) xs
def gi{α:Type}(r:Rp α):Rp (List α) where
 sz:=1
 agg:=false
 rc:=fun S cs xs=> ∃a cap,cs=[.slice a xs.length cap]∧xs.length≤cap∧cap≤maxLen∧Kt r S a xs
 mono:=fun h ⟨a,cap,e,h1,h2,h3⟩=>⟨a,cap,e,h1,h2,h3.imp id fun⟨b,off,c,E,fr,e1,e2,e3⟩=>by
  obtain⟨o',h4,h5⟩:=h _ _ e2
  obtain⟨c',rfl,h6⟩:=Fo h5 (pq e3)
  exact⟨b,off,c',E,fr,e1,h4,by rw [h6];exact tY h e3⟩⟩
 len:=fun⟨a,cap,e,_⟩=>by rw [e];rfl
 one:=fun⟨a,cap,e,_⟩ c hc=>by rw [e]at hc;simp at hc;subst hc;rfl
 sc:=fun _=>rfl
variable{cap:Nat}
theorem po{r:Rp α}:(tD (gi r) xs).p S v↔ ∃a cap,v= .slice a xs.length cap∧xs.length≤cap∧cap≤maxLen∧Kt r S a xs:=by
 constructor
 ·rintro⟨cs,rfl,a,cap,rfl,h⟩;exact⟨a,cap,rfl,h⟩
 ·rintro⟨a,cap,rfl,h⟩;exact⟨_,rfl,a,cap,rfl,h⟩
theorem OG{r:Rp α}:(tD (gi r) []).p S (.slice none 0 0):=po.2 ⟨none,0,rfl,dh _,lS _,.inl rfl⟩

def bM{α:Type}(r:Rp α)(x:α):Ty where
 p:=fun S v=> ∃b off c E fr,v= .pointer (some ⟨b,off,none⟩)∧S b=some (.cells c E fr)∧r.rc S ((c.toList.drop off).take r.sz) x
 mono:=fun h ⟨b,off,c,E,fr,e1,e2,e3⟩=>by
  obtain⟨o',h4,h5⟩:=h _ _ e2
  obtain⟨c',rfl,h6⟩:=Fo h5 (r.len e3)
  exact⟨b,off,c',E,fr,e1,h4,by rw [h6];exact r.mono h e3⟩

def glob:List (Nat×List Value):=[(2,[.int .i64 (1),.int .i64 (0),.int .u64 (0),.string ⟨([]:List UInt8).toArray⟩,.int .i64 (0),.int .i64 (0),.int .u64 (0),.string ⟨([]:List UInt8).toArray⟩,.int .i64 (1),.int .i64 (1),.int .u64 (0),.string ⟨([]:List UInt8).toArray⟩])]
def aah(w:World):Prop:=True
structure jL(w:World)(S:SH):Prop where
 at_: ∀b o,S b=some o→ ∃o',w.heap[b]? =some o' ∧KS o o'
 gl: ∀p∈glob,∃c T fr,S p.1=some (.cells c T fr)∧c.toList.take p.2.length=p.2
 tb: ∀w' :World,(∀b o,S b=some o→ ∃o',w'.heap[b]? =some o' ∧KS o o')→aah w'
instance{w:World}{S:SH}:CoeFun (jL w S) (fun _=> ∀b o,S b=some o→ ∃o',w.heap[b]? =some o' ∧KS o o'):=⟨jL.at_⟩
variable{w:World}
theorem jL.lt(h:jL w S){b:Nat}{o:Obj}(k:S b=some o):b<w.heap.size:=let⟨_,h1,_⟩:=h b o k;(wp.1 h1).1
theorem jL.part(h:jL w S){b:Nat}{c:Array Value}{E:TypeId}(k:S b=some (.cells c E fr)){n:Nat}(hl:((c.toList.drop off).take n).length=n):
  ∃c',w.heap[b]? =some (.cells c' E fr)∧(c'.toList.drop off).take n=(c.toList.drop off).take n:=by
 obtain⟨o',h1,h2⟩:=h b _ k
 obtain⟨c',rfl,h3⟩:=Fo h2 hl
 exact⟨c',h1,h3⟩
variable{w' :World}
theorem jL.same(h:jL w S)(k: ∀b o,S b=some o→w'.heap[b]? =w.heap[b]?):jL w' S:=⟨fun b o e=>by rw [k b o e];exact h b o e,h.gl,h.tb⟩

def p9:Nat→Prop:=fun _=>False
structure gn(B:Nat→Prop)(w:World)(S:SH)(w' :World)(S' :SH):Prop where
 os:w'.os=w.os
 tape:w'.tape=w.tape
 output:w'.output=w.output
 drawn:w.drawn≤w'.drawn
 size:w.heap.size≤w'.heap.size
 heap: ∀k,k<w.heap.size→ ¬B k→w'.heap[k]? =w.heap[k]?
 keep:SH.le S S'
 old: ∀k,k<w.heap.size→ ¬B k→S' k=S k
theorem gn.refl(B:Nat→Prop)(w:World)(S:SH):gn B w S w S:=⟨rfl,rfl,rfl,dh _,dh _,fun _ _ _=>rfl,SH.le_refl _,fun _ _ _=>rfl⟩
variable{w'' :World}
theorem gn.trans{B:Nat→Prop}(h:gn B w S w' S')(k:gn B w' S' w'' S''):gn B w S w'' S'' :=
 ⟨k.os.trans h.os,k.tape.trans h.tape,k.output.trans h.output,zN h.drawn k.drawn,zN h.size k.size,
  fun i hi hb=>(k.heap i (xJ hi h.size) hb).trans (h.heap i hi hb),SH.le_trans h.keep k.keep,
  fun i hi hb=>(k.old i (xJ hi h.size) hb).trans (h.old i hi hb)⟩
variable{C:Nat→Prop}
theorem gn.step{B:Nat→Prop}(h:gn B w S w' S')(k:gn C w' S' w'' S'')(hC: ∀b,C b→w.heap.size≤b∨B b):gn B w S w'' S'' :=
 ⟨k.os.trans h.os,k.tape.trans h.tape,k.output.trans h.output,zN h.drawn k.drawn,zN h.size k.size,
  fun i hi hb=>(k.heap i (xJ hi h.size) (fun hc=>(hC i hc).elim (fun h=>by omega) hb)).trans (h.heap i hi hb),SH.le_trans h.keep k.keep,
  fun i hi hb=>(k.old i (xJ hi h.size) (fun hc=>(hC i hc).elim (fun h=>by omega) hb)).trans (h.old i hi hb)⟩
theorem gn.more{B:Nat→Prop}(h:gn B w S w' S')(k: ∀b,B b→C b):gn C w S w' S' :=
 ⟨h.os,h.tape,h.output,h.drawn,h.size,fun i hi hb=>h.heap i hi (fun h=>hb (k i h)),h.keep,fun i hi hb=>h.old i hi (fun h=>hb (k i h))⟩
theorem gn.step0{B:Nat→Prop}(h:gn B w S w' S')(k:gn p9 w' S' w'' S''):gn B w S w'' S'' :=h.step k fun _ hb=>hb.elim

structure OE where
 fp:Nat→Prop
 p:World→SH→Prop
 here: ∀{w S},p w S→ ∀k,fp k→k<w.heap.size
 kept: ∀{C w w' S S'},p w S→gn C w S w' S' →(∀k,fp k→ ¬C k)→p w' S'
def OE.holds(e:OE)(base:Nat)(B:Nat→Prop)(w:World)(S:SH):Prop:=e.p w S∧ ∀k,e.fp k→base≤k∨B k
def OE.apart(e f:OE):Prop:= ∀b,e.fp b→ ¬f.fp b
def cL(base:Nat)(B:Nat→Prop)(w:World)(S:SH):List OE→Prop
 |[]=>True
 |e::O=>e.holds base B w S∧(∀f∈O,e.apart f)∧cL base B w S O
theorem JH{e:OE}{base:Nat}{B:Nat→Prop}(h:e.holds base B w S)(k:gn C w S w' S')(hC: ∀b,e.fp b→ ¬C b):e.holds base B w' S' :=⟨e.kept h.1 k hC,h.2⟩
variable{O:List OE}{f:FuncId}
theorem cL.ext{base:Nat}{B:Nat→Prop}(k:gn C w S w' S'): ∀{O:List OE},cL base B w S O→(∀e∈O,∀b,e.fp b→ ¬C b)→cL base B w' S' O
 |[],_,_=>trivial
 |e::_,⟨h1,h2,h3⟩,hC=>⟨JH h1 k (hC e (kZ ..)),h2,cL.ext k h3 fun f hf=>hC f (kN _ hf)⟩
theorem cL.ext0{base:Nat}{B:Nat→Prop}(k:gn p9 w S w' S')(h:cL base B w S O):cL base B w' S' O:=
 h.ext k fun _ _ _ _ hb=>hb
theorem cL.mem{base:Nat}{B:Nat→Prop}: ∀{O:List OE},cL base B w S O→ ∀e∈O,e.holds base B w S
 |_::_,⟨h1,_,_⟩,_,.head _=>h1
 |_::_,⟨_,_,h3⟩,_,.tail _ hm=>cL.mem h3 _ hm

abbrev nm:=List (Nat×Ty)
def dn:nm→Nat→Option Ty
 |[],_=>none
 |(k,t)::G,j=>bif Nat.beq k j then some t else dn G j
structure Fr where
 n:Nat
 ds:List Deferred
structure cU(N:Fr)(S:SH)(a:Act)(G:nm):Prop where
 size:a.tmps.size=N.n
 defers:a.defers=N.ds
 at_: ∀k t,dn G k=some t→t.p S (a.tmps.getD k undef)
variable{G:nm}{j:Nat}{t:Ty}
theorem cU.mono{N:Fr}(h:cU N S a G)(k:SH.le S S'):cU N S' a G:=⟨h.size,h.defers,fun j t e=>t.mono k (h.at_ j t e)⟩
theorem cU.sub{N:Fr}{G' :nm}(h:cU N S a G)(k: ∀j t,dn G' j=some t→dn G j=some t):cU N S a G' :=⟨h.size,h.defers,fun j t e=>h.at_ j t (k j t e)⟩
variable{u:OE}
theorem cU.put{N:Fr}(h:cU N S a G)(hd:Nat.blt d N.n=true)(hv:t.p S v):cU N S (a.put (some d) v) ((d,t)::G):=by
 have hd' :d<N.n:=by simpa [xq] using hd
 refine⟨by simp [Act.put,h.size],h.defers,fun j u e=>?_⟩
 unfold dn at e
 by_cases hj:d=j
 ·subst hj
  have e' :t=u:=by simpa using e
  rw [e']at hv
  simp [Act.put,JP,h.size,hd',hv]
 ·have hb:Nat.beq d j=false:=by cases hh:Nat.beq d j with
   |false=>rfl
   |true=>exact absurd (o7 hh) hj
  rw [hb]at e
  have:=h.at_ j u e
  simpa [Act.put,JP,Array.getElem?_setIfInBounds,hj] using this
def MM:nm→nm→Prop
 |[],_=>True
 |(k,t)::G',G=>dn G k=some t∧MM G' G
theorem Hg: ∀{G' G:nm},MM G' G→ ∀j t,dn G' j=some t→dn G j=some t
 |(k,t)::G',G,⟨h1,h2⟩,j,u,e=>by
  unfold dn at e
  by_cases hb:Nat.beq k j=true
  ·rw [hb]at e
   have:=o7 hb
   subst this
   simp only [cond_true]at e
   rw [←e];exact h1
  ·rw [Al]at hb
   rw [hb]at e
   exact Hg h2 j u e

def aJ(N:Fr)(G:nm)(x:Operand)(t:Ty):Prop:= ∀S a,cU N S a G→t.p S (a.eval x)
theorem ht{N:Fr}(h:dn G k=some t):aJ N G (.tmp k) t:=fun _ _ hF=>hF.at_ k t h
theorem hI{N:Fr}{k:IntKind}{n:Int}:aJ N G (.const (.int k n)) (tD (rI k) n):=fun _ _ _=>di.2 rfl
theorem hB{N:Fr}:aJ N G (.const (.bool b)) (tD rB b):=fun _ _ _=>i8.2 rfl
theorem hS{N:Fr}{s:Array UInt8}:aJ N G (.const (.string ⟨s⟩)) (tD rS s.toList):=fun _ _ _=>Cm.2 rfl
theorem kE{N:Fr}{r:Rp α}:aJ N G (.const (.slice none 0 0)) (tD (gi r) []):=fun _ _ _=>OG
theorem hV{N:Fr}:aJ N G (.const v) (tV v):=fun _ _ _=>rfl

section
variable{P:Program}
end

def fw(r:Option Nat):Fence:={fn:=fun _=>True,depth:=none,alive:=false,round:=r}
variable{args:α→List Ty}
theorem jU{r:Option Nat}{n:Nat}{P:Program}{args:Array Value}{R:Ending→World→Prop}:CallsIn (fw r) n P f args w R↔Calls P f args w R:=callsIn_wide
theorem Lz{r:Option Nat}{n:Nat}:(fw r).depth.isSome=true→1≤n:=fun h=>by cases h
structure En where
 P:Program
 N:Fr
 B:Nat→Prop
 w0:World
 S0:SH
 r:Option Nat
def En.base(E:En):Nat:=E.w0.heap.size

def YB(P:Program)(o:Oper)(a:Act)(K:Act→World→Prop):Result Next→Prop
 | .ok (.value v) w' =>K (a.put o.dst v) w'
 | .ok .skip w' =>K (a.put o.dst undef) w'
 | .ok (.enter f args) w' =>Calls P f args w' fun e w'' => ∃v,e= .returned v∧K (a.put o.dst v) w''
 | .ok (.round l f tmps assign body) w' =>RoundIn (fw none) 0 P l f tmps assign body w' fun e w'' => ∃v,e= .returned v∧K (a.put o.dst v) w''
 |_=>False
def KR(P:Program)(o:Oper)(a:Act)(w:World)(K:Act→World→Prop):Prop:=(∀c,o.op≠ .defer c)∧YB P o a K ((execOp a.eval o).run P w)
variable{l:Option Nat}
theorem Nc{r:Option Nat}{n:Nat}{P:Program}{l:Nat}{tmps:Array Value}{assign body:Code}{R:Ending→World→Prop}(h:RoundIn (fw none) 0 P l f tmps assign body w R):RoundIn (fw r) n P l f tmps assign body w R:=
 ⟨trivial,fun c cs _=>h.2 c cs (fun _ hd=>by cases hd)⟩
variable{K K' :Act→World→Prop}
theorem R2{P:Program}(hK: ∀a w,K a w→K' a w){r:Result Next}(h:YB P o a K r):YB P o a K' r:=by
 cases r with
 |ok n w=>
  cases n<;>simp only [YB]at h ⊢
  case value=>exact hK _ _ h
  case skip=>exact hK _ _ h
  case enter f args=>exact h.mono fun e w' ⟨v,he,hk⟩=>⟨v,he,hK _ _ hk⟩
  case round l f tmps assign body=>exact h.mono fun e w' ⟨v,he,hk⟩=>⟨v,he,hK _ _ hk⟩
 |halt x w=>simp only [YB]at h
theorem oR{P:Program}(hK: ∀a w,K a w→K' a w)(h:KR P o a w K):KR P o a w K' :=⟨h.1,R2 hK h.2⟩
variable{Q:Exit→Act→World→Prop}{β:Type}{res:β→Ty}
theorem lq{P:Program}{r:Option Nat}(hK: ∀a w,K a w→K' a w)(h:KR P o a w K):o.wpIn (fw r) 0 P a w K' Q:=by
 obtain⟨hd,h⟩:=h
 refine⟨fun _ _=>trivial,?_⟩
 rw [Oper.semAt_eq _ _ _ hd]
 generalize (execOp a.eval o).run P w=res at h
 cases res with
 |ok n w=>
  cases n<;>simp only [YB]at h<;>simp only [Oper.uponIn]
  case value=>exact hK _ _ h
  case skip=>exact hK _ _ h
  case enter f args=>exact⟨Lz,jU.2 (h.mono fun e w' ⟨v,he,hk⟩=>by subst he;exact hK _ _ hk)⟩
  case round l f tmps assign body=>exact⟨Lz,(Nc h).mono fun e w' ⟨v,he,hk⟩=>by subst he;exact hK _ _ hk⟩
 |halt x w=>simp only [YB]at h

def bR(E:En)(O:List OE)(G:nm)(o:Oper)(t:Ty):Prop:=
 ∀a w S,jL w S→cL E.base E.B w S O→cU E.N S a G→
  KR E.P o a w (fun a' w' => ∃v S',a' =a.put o.dst v∧gn p9 w S w' S' ∧jL w' S' ∧t.p S' v)
structure St(E:En)(O:List OE)(G:nm)(a:Act)(w:World)(S:SH):Prop where
 ext:gn E.B E.w0 E.S0 w S
 sat:jL w S
 own:cL E.base E.B w S O
 facts:cU E.N S a G
def RG(E:En)(ops:Array Oper)(Q:Exit→Act→World→Prop)(l:List Oper)(O:List OE)(G:nm):Prop:= ∀a w S,St E O G a w S→wpListIn (fw E.r) 0 E.P ops Q l a w
def CG(E:En)(Q:Exit→Act→World→Prop)(c:Code)(O:List OE)(G:nm):Prop:= ∀a w S,St E O G a w S→c.wpIn (fw E.r) 0 E.P Q a w
def AT(E:En)(Q:Exit→Act→World→Prop)(e:Exit)(O:List OE)(G:nm):Prop:= ∀a w S,St E O G a w S→Q e a w

variable{after:Array Edge}{fn:Func}{ops:Array Oper}{pos:String}{ts:List Ty}{y:Operand}
section
variable{E:En}{G' :nm}{l:List Oper}
theorem St.step(h:St E O G a w S)(k:gn p9 w S w' S')(hs:jL w' S')(hd:Nat.blt d E.N.n=true)(hv:t.p S' v):
  St E O ((d,t)::G) (a.put (some d) v) w' S' :=
 ⟨h.ext.step0 k,hs,h.own.ext0 k,(h.facts.mono k.keep).put hd hv⟩
theorem St.sub(h:St E O G a w S)(k:MM G' G):St E O G' a w S:=⟨h.ext,h.sat,h.own,h.facts.sub (Hg k)⟩
theorem RG.of(hg:o.guard=none)(h: ∀a w S,St E O G a w S→KR E.P o a w (fun a' w' =>wpListIn (fw E.r) 0 E.P ops Q l a' w')):RG E ops Q (o::l) O G:=fun a w S st=>
 wpListIn_plain hg fun _ hK=>lq hK (h a w S st)

theorem qF{op:Op}{ty:TypeId}(h:bR E O G ⟨some d,op,ty,pos,after,none⟩ t)(hd:Nat.blt d E.N.n=true)(k:RG E ops Q l O ((d,t)::G)):
  RG E ops Q (⟨some d,op,ty,pos,after,none⟩::l) O G:= .of rfl fun a w S st=>
 oR (fun a' w' ⟨_,_,ha,he,hs,hv⟩=>by subst ha;exact k _ _ _ (st.step he hs hd hv)) (h a w S st.sat st.own st.facts)
theorem aP(h:AT E Q .normal O G):RG E ops Q [] O G:=fun a w S st=>h a w S st
theorem au{id:Nat}{l:List Oper}(h:RG E l.toArray Q l O G):CG E Q (.region id l.toArray false) O G:=fun a w S st=>wpIn_region_lit (h a w S st)
theorem ah{x y:Code}(h:CG E (Exit.then (y.wpIn (fw E.r) 0 E.P Q) Q) x O G):CG E Q (.seq x y) O G:=fun a w S st=>wpIn_seq (h a w S st)
theorem ax{y:Code}(h:CG E Q y O G):AT E (Exit.then (y.wpIn (fw E.r) 0 E.P Q) Q) .normal O G:=h
theorem bA(h:AT E Q .normal O G):CG E Q .skip O G:=fun a w S st=>wpIn_skip (h a w S st)
theorem bv{id:Nat}(h:AT E Q (.exit id) O G):CG E Q (.exit id) O G:=fun a w S st=>wpIn_exit (h a w S st)
theorem am(h:AT E Q .ret O G):CG E Q .ret O G:=fun a w S st=>wpIn_ret (h a w S st)
theorem Gq(h:CG E Q c O G')(k:MM G' G):CG E Q c O G:=fun a w S st=>h a w S (st.sub k)
theorem cF{e:Exit}(h:AT E Q e O G')(k:MM G' G):AT E Q e O G:=fun a w S st=>h a w S (st.sub k)
theorem pu{c:Operand}{x y:Code}(hb:aJ E.N G c (tD rB b))(hx:b=true→CG E Q x O G)(hy:b=false→CG E Q y O G):CG E Q (.cond c x y) O G:=fun a w S st=>by
 have hv:a.eval c= .bool b:=i8.1 (hb S a st.facts)
 refine wpIn_cond hv ?_
 cases b with
 |true=>exact hx rfl a w S st
 |false=>exact hy rfl a w S st
theorem ay{id:Nat}(h:CG E (Exit.inBlock id Q) c O G):CG E Q (.block id c) O G:=fun a w S st=>wpIn_block (h a w S st)
def Cz(r:Option Nat)(P:Program)(c:Code)(Q:Exit→Act→World→Prop)(a:Act)(w:World):Prop:=
 ∀(b:Frame) (k:List Item) (cs:List Frame),b.roundOf=r→ ∃e a' w',Q e a' w' ∧ArrivesIn (Machine.fenced P (fw r)) P (lone (b.atR a (.code c:: .inLoop c::k)) cs w) b k cs e a' w'
theorem Pd{r:Option Nat}{n:Nat}:(fw r).room n:=fun _ hd=>by cases hd
theorem Ii{r:Option Nat}{P:Program}{Q:Exit→Act→World→Prop}(h:Cz r P c Q a w):(Code.loop c).wpIn (fw r) 0 P Q a w:=fun b k cs hro hb hr=>
 let⟨e,a',w',hq,harr⟩:=h b k cs hro
 ⟨e,a',w',hq,.of_steps (.one (fenced_calm hb hr rfl) stepR_loop) harr⟩
theorem GO{r:Option Nat}{P:Program}{Q:Exit→Act→World→Prop}(h:c.wpIn (fw r) 0 P (Exit.then (Cz r P c Q) Q) a w):Cz r P c Q a w:=by
 intro b k cs hro
 obtain⟨e,a₁,w₁,hq,harr⟩:=h b (.inLoop c::k) cs hro trivial Pd
 cases e with
 |normal=>
  obtain⟨e₂,a₂,w₂,hq₂,harr₂⟩:=hq b k cs hro
  exact⟨e₂,a₂,w₂,hq₂,.of_steps (StepsIn.trans harr (.one (fenced_calm (n:=0) (F:=fw r) trivial Pd rfl) stepR_inLoop)) harr₂⟩
 |exit id=>exact⟨_,a₁,w₁,hq,.pass (x:= .inLoop c) rfl (fun _ _=> .inl (by simp)) harr⟩
 |goto l=>exact⟨_,a₁,w₁,hq,.pass (x:= .inLoop c) rfl (fun _ _=> .inl (by simp)) harr⟩
 |ret=>exact⟨_,a₁,w₁,hq,.pass (x:= .inLoop c) rfl (fun _ _=> .inl (by simp)) harr⟩
 |panic ch=>exact⟨_,a₁,w₁,hq,.pass (x:= .inLoop c) rfl (fun _ _=> .inl (by simp)) harr⟩
 |outgrown=>exact⟨_,a₁,w₁,hq,.pass (x:= .inLoop c) rfl (fun _ _=> .inl (by simp)) harr⟩
def LG(E:En)(Q:Exit→Act→World→Prop)(c:Code)(O:List OE)(G:nm):Prop:= ∀a w S,St E O G a w S→Cz E.r E.P c Q a w
theorem bL(h:LG E Q c O G):CG E Q (.loop c) O G:=fun a w S st=>Ii (h a w S st)
theorem aA(h:CG E (Exit.then (Cz E.r E.P c Q) Q) c O G):LG E Q c O G:=fun a w S st=>GO (h a w S st)
theorem aR(h:LG E Q c O G')(k:MM G' G):LG E Q c O G:=fun a w S st=>h a w S (st.sub k)
theorem bg(h:LG E Q c O G):AT E (Exit.then (Cz E.r E.P c Q) Q) .normal O G:=h
theorem ai{id:Nat}(h:AT E Q (.exit id) O G):AT E (Exit.then K Q) (.exit id) O G:=h
theorem ae(h:AT E Q .ret O G):AT E (Exit.then K Q) .ret O G:=h
theorem aD{id:Nat}(h:AT E Q .ret O G):AT E (Exit.inBlock id Q) .ret O G:=h
theorem ap{id:Nat}(h:AT E Q .normal O G):AT E (Exit.inBlock id Q) .normal O G:=h
theorem aN{id:Nat}(h:AT E Q .normal O G):AT E (Exit.inBlock id Q) (.exit id) O G:=fun a w S st=>by
 simp only [Exit.inBlock,eg];exact h a w S st
theorem ck{id id' :Nat}(hne:Nat.beq id' id=false)(h:AT E Q (.exit id') O G):AT E (Exit.inBlock id Q) (.exit id') O G:=fun a w S st=>by
 have:id' ≠id:=fun e=>by subst e;simp at hne
 simp only [Exit.inBlock,this,d9];exact h a w S st

def xA(S:SH):List Ty→List Value→Prop
 |[],[]=>True
 |t::ts,v::vs=>t.p S v∧xA S ts vs
 |_,_=>False
theorem xA.mono(h:SH.le S S'): ∀{ts:List Ty} {vs:List Value},xA S ts vs→xA S' ts vs
 |[],[],_=>trivial
 |t::_,_::_,⟨h1,h2⟩=>⟨t.mono h h1,xA.mono h h2⟩
theorem xA.length: ∀{ts:List Ty} {vs:List Value},xA S ts vs→vs.length=ts.length
 |[],[],_=>rfl
 |_::_,_::_,⟨_,h2⟩=>by simp [xA.length h2]
def aW(P:Program)(f:FuncId)(ts:List Ty)(t:Ty):Prop:=
 ∀w S vs,jL w S→xA S ts vs→Calls P f vs.toArray w fun e w' => ∃v S',e= .returned v∧gn p9 w S w' S' ∧jL w' S' ∧t.p S' v
def N3(E:En)(t:Ty):Ending→World→Prop:=fun e w' => ∃v S',e= .returned v∧gn E.B E.w0 E.S0 w' S' ∧jL w' S' ∧t.p S' v
def uc(k:Nat):List Ty→nm
 |[]=>[]
 |t::ts=>(k,t)::uc (k+1) ts
theorem Fy: ∀(ts:List Ty) (k j:Nat) (t:Ty),dn (uc k ts) j=some t→ ∃i,j=k+i∧ts[i]? =some t
 |[],_,_,_,h=>by simp [uc,dn]at h
 |u::ts,k,j,t,h=>by
  unfold uc dn at h
  by_cases hb:Nat.beq k j=true
  ·rw [hb]at h
   exact⟨0,by rw [o7 hb];rfl,by simpa using h⟩
  ·rw [Al]at hb
   rw [hb]at h
   obtain⟨i,h1,h2⟩:=Fy ts (k+1) j t h
   exact⟨i+1,by omega,by simpa using h2⟩
theorem xA.at_: ∀{ts:List Ty} {vs:List Value} (_:xA S ts vs) (i:Nat) (t:Ty),ts[i]? =some t→ ∃v,vs[i]? =some v∧t.p S v
 |_::_,v::_,⟨h1,_⟩,0,t,h=>⟨v,rfl,by simp at h;rw [←h];exact h1⟩
 |_::ts,_::vs,⟨_,h2⟩,i+1,t,h=>by simpa using xA.at_ h2 i t (by simpa using h)
theorem m9{vs:List Value}(h:xA S ts vs)(n:Nat)(hn:ts.length≤n):
  cU ⟨n,[]⟩ S {tmps:=vs.toArray++Array.replicate (n-vs.toArray.size) undef,defers:=[]} (uc 0 ts):=by
 have hl:=h.length
 refine⟨by simp;omega,rfl,fun j t hj=>?_⟩
 obtain⟨i,e,hi⟩:=Fy ts 0 j t hj
 have e' :j=i:=by omega
 subst e'
 obtain⟨v,hv,ht⟩:=h.at_ j t hi
 have hlt:j<vs.length:=(ke.1 hv).1
 have:(vs.toArray++Array.replicate (n-vs.toArray.size) undef).getD j undef=v:=by
  rw [JP,Array.getElem?_append_left (by simpa using hlt)]
  simp [hv]
 rw [this];exact ht
theorem JE{P:Program}(hf:P.funcs[f]? =some fn)(hb:fn.body=some c)(hn:ts.length≤fn.ntmps)(h: ∀w0 S0,CG ⟨P,⟨fn.ntmps,[]⟩,p9,w0,S0,none⟩ (bodyPost P fn (N3 ⟨P,⟨fn.ntmps,[]⟩,p9,w0,S0,none⟩ t)) c [] (uc 0 ts)):aW P f ts t:=by
 intro w S vs hs hv
 exact jU.1 (Eu (F:=fw none) (n:=0) hf hb trivial (h w S _ w S ⟨gn.refl _ _ _,hs,trivial,m9 hv _ hn⟩))
theorem np(P:Program)(fn:Func)(k:Nat)(h:fn.results= #[.tmp k])(tmps:Array Value)(w:World):(results fn tmps).run P w= .ok (tmps.getD k undef) w:=by
 simp [results,h]
theorem aH{P:Program}{N:Nat}{B:Nat→Prop}{w0:World}{S0:SH}(hr:fn.results= #[.tmp k])(hk:dn G k=some t):
  AT ⟨P,⟨N,[]⟩,B,w0,S0,none⟩ (bodyPost P fn (N3 ⟨P,⟨N,[]⟩,B,w0,S0,none⟩ t)) .ret O G:=fun _ _ S st=>
 ⟨st.facts.defers,_,np P fn k hr _ _,_,S,rfl,st.ext,st.sat,st.facts.at_ k t hk⟩
def tT(ts:List Ty):Ty where
 p:=fun S v=> ∃vs,v= .tuple vs.toArray∧xA S ts vs
 mono:=fun h k=>by obtain⟨vs,e,k⟩:=k;exact⟨vs,e,xA.mono h k⟩
theorem DX(P:Program)(fn:Func)(j k:Nat)(h:fn.results= #[.tmp j,.tmp k])(tmps:Array Value)(w:World):(results fn tmps).run P w= .ok (.tuple #[tmps.getD j undef,tmps.getD k undef]) w:=by
 simp [results,h]
theorem cP{P:Program}{N:Nat}{B:Nat→Prop}{w0:World}{S0:SH}{u:Ty}(hr:fn.results= #[.tmp j,.tmp k])(hj:dn G j=some t)(hk:dn G k=some u):
  AT ⟨P,⟨N,[]⟩,B,w0,S0,none⟩ (bodyPost P fn (N3 ⟨P,⟨N,[]⟩,B,w0,S0,none⟩ (tT [t,u]))) .ret O G:=fun _ _ S st=>
 ⟨st.facts.defers,_,DX P fn j k hr _ _,_,S,rfl,st.ext,st.sat,[_,_],rfl,st.facts.at_ j t hj,st.facts.at_ k u hk,trivial⟩
theorem vE(P:Program)(fn:Func)(h:fn.results= #[])(tmps:Array Value)(w:World):(results fn tmps).run P w= .ok (.tuple #[]) w:=by
 simp [results,h]
end

variable{dst:Option Tmp}{g:Option (Nat×Bool)}{k' :IntKind}{m:Int}{xt yt:TypeId}
section
variable{E:En}{ty:TypeId}
theorem bR.of_run(h: ∀a w S,jL w S→cL E.base E.B w S O→cU E.N S a G→
  ∃v w' S',(execOp a.eval o).run E.P w= .ok (.value v) w' ∧gn p9 w S w' S' ∧jL w' S' ∧t.p S' v)(hd: ∀c,o.op≠ .defer c:=by intro c h;cases h):bR E O G o t:=fun a w S hs ho hf=>by
 obtain⟨v,w',S',hr,he,hs',hv⟩:=h a w S hs ho hf
 refine⟨hd,?_⟩
 rw [hr]
 exact⟨v,S',rfl,he,hs',hv⟩
theorem bR.of_pure(h: ∀a w S,jL w S→cL E.base E.B w S O→cU E.N S a G→ ∃v,(execOp a.eval o).run E.P w= .ok (.value v) w∧t.p S v)(hd: ∀c,o.op≠ .defer c:=by intro c h;cases h):bR E O G o t:=
 .of_run (fun a w S hs ho hf=>let⟨v,hr,hv⟩:=h a w S hs ho hf;⟨v,w,S,hr,gn.refl _ _ _,hs,hv⟩) hd

theorem bE(hx:aJ E.N G x t):bR E O G ⟨dst,.move x,ty,pos,after,g⟩ t:=
 .of_pure fun a _ S _ _ hf=>⟨a.eval x,rfl,hx S a hf⟩
theorem aM(hx:aJ E.N G x t):bR E O G ⟨dst,.assign x,ty,pos,after,g⟩ t:=
 .of_pure fun a _ S _ _ hf=>⟨a.eval x,rfl,hx S a hf⟩
theorem D9{c:Operand}(hc:aJ E.N G c (tD rB b))(hx:b=true→aJ E.N G x t)(hy:b=false→aJ E.N G y t):bR E O G ⟨dst,.pick c x y,ty,pos,after,g⟩ t:=
 .of_pure fun a _ S _ _ hf=>by
  have h1:a.eval c= .bool b:=i8.1 (hc S a hf)
  refine⟨if b then a.eval x else a.eval y,by simp [execOp,h1,asBool],?_⟩
  cases b with
  |true=>exact hx rfl S a hf
  |false=>exact hy rfl S a hf

section
variable{k:IntKind}{n:Int}
theorem Dz{P:Program}{op:BinOp}{xt:TypeId}{x y:Operand}{k:IntKind}{m n:Int}:(eqGuard op xt x y (.int k m) (.int k' n)).run P w= .ok () w:=by
 unfold eqGuard
 cases op<;>rfl
theorem sy{op:BinOp}(hx:aJ E.N G x (tD (rI k) m))(hy:aJ E.N G y (tD (rI k) n))(hv: ∀P w,(binOp op xt (.int k m) (.int k n)).run P w= .ok v w)(ht: ∀S,t.p S v):
  bR E O G ⟨dst,.binOp op xt x y yt,ty,pos,after,g⟩ t:=
 .of_pure fun a w S _ _ hf=>by
  have h1:a.eval x= .int k m:=di.1 (hx S a hf)
  have h2:a.eval y= .int k n:=di.1 (hy S a hf)
  refine⟨v,?_,ht S⟩
  simp [execOp,h1,h2,Dz,hv]
theorem nY(hx:aJ E.N G x (tD (rI k) m))(hy:aJ E.N G y (tD (rI k) n)):bR E O G ⟨dst,.binOp .add xt x y yt,ty,pos,after,g⟩ (tD (rI k) (k.wrap (m+n))):=
 sy hx hy (fun _ _=>by simp [binOp,Op.intArith]) (fun _=>di.2 rfl)
theorem iq(hx:aJ E.N G x (tD (rI k) m))(hy:aJ E.N G y (tD (rI k) n)):bR E O G ⟨dst,.binOp .sub xt x y yt,ty,pos,after,g⟩ (tD (rI k) (k.wrap (m-n))):=
 sy hx hy (fun _ _=>by simp [binOp,Op.intArith]) (fun _=>di.2 rfl)
theorem yp(hx:aJ E.N G x (tD (rI k) m))(hy:aJ E.N G y (tD (rI k) n)):bR E O G ⟨dst,.binOp .mul xt x y yt,ty,pos,after,g⟩ (tD (rI k) (k.wrap (m*n))):=
 sy hx hy (fun _ _=>by simp [binOp,Op.intArith]) (fun _=>di.2 rfl)
theorem YD(hx:aJ E.N G x (tD (rI k) m))(hy:aJ E.N G y (tD (rI k) n))(h0:n≠0):bR E O G ⟨dst,.binOp .quo xt x y yt,ty,pos,after,g⟩ (tD (rI k) (k.wrap (m.tdiv n))):=
 sy hx hy (fun _ _=>by simp [binOp,Op.intDiv,h0]) (fun _=>di.2 rfl)
theorem gx(hx:aJ E.N G x (tD (rI k) m))(hy:aJ E.N G y (tD (rI k) n)):bR E O G ⟨dst,.binOp .lss xt x y yt,ty,pos,after,g⟩ (tD rB (decide (m<n))):=
 sy hx hy (fun _ _=>by simp [binOp,Op.intCmp]) (fun _=>i8.2 rfl)
theorem mY(hx:aJ E.N G x (tD (rI k) m))(hy:aJ E.N G y (tD (rI k) n)):bR E O G ⟨dst,.binOp .leq xt x y yt,ty,pos,after,g⟩ (tD rB (decide (m≤n))):=
 sy hx hy (fun _ _=>by simp [binOp,Op.intCmp]) (fun _=>i8.2 rfl)
theorem fU(hx:aJ E.N G x (tD (rI k) m))(hy:aJ E.N G y (tD (rI k) n)):bR E O G ⟨dst,.binOp .gtr xt x y yt,ty,pos,after,g⟩ (tD rB (decide (n<m))):=
 sy hx hy (fun _ _=>by simp [binOp,Op.intCmp]) (fun _=>i8.2 rfl)
theorem ir(hx:aJ E.N G x (tD (rI k) m))(hy:aJ E.N G y (tD (rI k) n)):bR E O G ⟨dst,.binOp .geq xt x y yt,ty,pos,after,g⟩ (tD rB (decide (n≤m))):=
 sy hx hy (fun _ _=>by simp [binOp,Op.intCmp]) (fun _=>i8.2 rfl)
theorem dx(hx:aJ E.N G x (tD (rI k) m))(hy:aJ E.N G y (tD (rI k) n)):bR E O G ⟨dst,.binOp .eql xt x y yt,ty,pos,after,g⟩ (tD rB (m==n)):=
 sy hx hy (fun _ _=>by simp [binOp,Op.intCmp]) (fun _=>i8.2 rfl)
theorem ft(hx:aJ E.N G x (tD (rI k) m))(hy:aJ E.N G y (tD (rI k) n)):bR E O G ⟨dst,.binOp .neq xt x y yt,ty,pos,after,g⟩ (tD rB (m !=n)):=
 sy hx hy (fun _ _=>by simp [binOp,Op.intCmp]) (fun _=>i8.2 rfl)
def fk(op:BinOp)(k:IntKind)(x y:Int):Int:=
 k.wrap (match op with
  | .and=>(BitVec.ofInt k.bits x&&&BitVec.ofInt k.bits y).toNat
  | .or=>(BitVec.ofInt k.bits x|||BitVec.ofInt k.bits y).toNat
  | .xor=>(BitVec.ofInt k.bits x^^^BitVec.ofInt k.bits y).toNat
  |_=>(BitVec.ofInt k.bits x&&& ~~~BitVec.ofInt k.bits y).toNat:Nat)
theorem Cy(hx:aJ E.N G x (tD (rI k) m))(hy:aJ E.N G y (tD (rI k) n)):bR E O G ⟨dst,.binOp .and xt x y yt,ty,pos,after,g⟩ (tD (rI k) (fk .and k m n)):=
 sy hx hy (fun _ _=>by simp [binOp,Op.intBits];rfl) (fun _=>di.2 rfl)
theorem Cw(hx:aJ E.N G x (tD (rI k) m))(hy:aJ E.N G y (tD (rI k) n)):bR E O G ⟨dst,.binOp .xor xt x y yt,ty,pos,after,g⟩ (tD (rI k) (fk .xor k m n)):=
 sy hx hy (fun _ _=>by simp [binOp,Op.intBits];rfl) (fun _=>di.2 rfl)
theorem R4{op:BinOp}(hx:aJ E.N G x (tD (rI k) m))(hy:aJ E.N G y (tD (rI k') n))(hv: ∀P w,(binOp op xt (.int k m) (.int k' n)).run P w= .ok v w)(ht: ∀S,t.p S v):
  bR E O G ⟨dst,.binOp op xt x y yt,ty,pos,after,g⟩ t:=
 .of_pure fun a w S _ _ hf=>by
  have h1:a.eval x= .int k m:=di.1 (hx S a hf)
  have h2:a.eval y= .int k' n:=di.1 (hy S a hf)
  refine⟨v,?_,ht S⟩
  simp [execOp,h1,h2,Dz,hv]
theorem Cx(hx:aJ E.N G x (tD (rI k) m))(hy:aJ E.N G y (tD (rI k') n))(h0:0≤n):bR E O G ⟨dst,.binOp .shr xt x y yt,ty,pos,after,g⟩ (tD (rI k) (m.fdiv (2^(min n.toNat k.bits)))):=
 R4 hx hy (fun _ _=>by simp [binOp,Op.shift,Int.not_lt.2 h0]) (fun _=>di.2 rfl)
theorem IW(hx:aJ E.N G x (tD (rI k) m)):bR E O G ⟨dst,.unOp .neg xt x,ty,pos,after,g⟩ (tD (rI k) (k.wrap (0-m))):=
 .of_pure fun a w S _ _ hf=>by
  have h1:a.eval x= .int k m:=di.1 (hx S a hf)
  exact⟨.int k (k.wrap (0-m)),by simp [execOp,h1,Op.unary,Op.intArith],di.2 rfl⟩
theorem fj(hx:aJ E.N G x (tD rB b)):bR E O G ⟨dst,.unOp .not xt x,ty,pos,after,g⟩ (tD rB (!b)):=
 .of_pure fun a w S _ _ hf=>by
  have h1:a.eval x= .bool b:=i8.1 (hx S a hf)
  exact⟨.bool (!b),by simp [execOp,h1,Op.unary],i8.2 rfl⟩
theorem sY{st dt:TypeId}{d:TypeDesc}(hs:E.P.underlying st=some d)(hd:E.P.underlying dt=some (.int k'))(hx:aJ E.N G x (tD (rI k) m)):
  bR E O G ⟨dst,.convert st dt x,ty,pos,after,g⟩ (tD (rI k') (k'.wrap m)):=
 .of_pure fun a w S _ _ hf=>by
  have h1:a.eval x= .int k m:=di.1 (hx S a hf)
  refine⟨.int k' (k'.wrap m),?_,di.2 rfl⟩
  simp only [execOp,h1,convert,xr,lY hs,lY hd,zB]
  cases d<;>simp [Conv.intToInt]
end

theorem vF{P:Program}{t:TypeId}(ht:P.underlying t=some .bool)(d:Nat)(b c:Bool)(w:World):(Op.equalIn (d+1) t (.bool b) (.bool c)).run P w= .ok (b==c) w:=by
 simp [Op.equalIn,lY ht]
theorem Bm{P:Program}{t:TypeId}{x y:Value}(hb: ∀d,(Op.equalIn (d+1) t x y).run P w= .ok b w):(Op.equal t x y).run P w= .ok b w:=hb 9999
section
theorem UL{c:Bool}(ht:E.P.underlying xt=some .bool)(hx:aJ E.N G x (tD rB b))(hy:aJ E.N G y (tD rB c)):bR E O G ⟨dst,.binOp .eql xt x y yt,ty,pos,after,g⟩ (tD rB (b==c)):=
 .of_pure fun a w S _ _ hf=>by
  have h1:a.eval x= .bool b:=i8.1 (hx S a hf)
  have h2:a.eval y= .bool c:=i8.1 (hy S a hf)
  exact⟨.bool (b==c),by simp [execOp,h1,h2,eqGuard,binOp,Bm (fun d=>vF ht d b c w)],i8.2 rfl⟩
theorem OU{c:Bool}(ht:E.P.underlying xt=some .bool)(hx:aJ E.N G x (tD rB b))(hy:aJ E.N G y (tD rB c)):bR E O G ⟨dst,.binOp .neq xt x y yt,ty,pos,after,g⟩ (tD rB (b !=c)):=
 .of_pure fun a w S _ _ hf=>by
  have h1:a.eval x= .bool b:=i8.1 (hx S a hf)
  have h2:a.eval y= .bool c:=i8.1 (hy S a hf)
  exact⟨.bool (b !=c),by simp [execOp,h1,h2,eqGuard,binOp,Bm (fun d=>vF ht d b c w)];cases b<;>cases c<;>rfl,i8.2 rfl⟩
theorem Nr{op:BinOp}{u:xC}(hx:aJ E.N G x (tD rS s))(hy:aJ E.N G y (tD rS u))(hv: ∀P w,(Op.stringOp op ⟨s.toArray⟩ ⟨u.toArray⟩).run P w= .ok (.bool b) w)(hg: ∀P w,(eqGuard op xt x y (.string ⟨s.toArray⟩) (.string ⟨u.toArray⟩)).run P w= .ok () w)(hb: ∀P w,(binOp op xt (.string ⟨s.toArray⟩) (.string ⟨u.toArray⟩)).run P w=(Op.stringOp op ⟨s.toArray⟩ ⟨u.toArray⟩).run P w):
  bR E O G ⟨dst,.binOp op xt x y yt,ty,pos,after,g⟩ (tD rB b):=
 .of_pure fun a w S _ _ hf=>by
  have h1:a.eval x= .string ⟨s.toArray⟩:=Cm.1 (hx S a hf)
  have h2:a.eval y= .string ⟨u.toArray⟩:=Cm.1 (hy S a hf)
  refine⟨.bool b,?_,i8.2 rfl⟩
  simp [execOp,h1,h2,hg,hb,hv]
theorem UH{u:xC}(hx:aJ E.N G x (tD rS s))(hy:aJ E.N G y (tD rS u)):bR E O G ⟨dst,.binOp .neq xt x y yt,ty,pos,after,g⟩ (tD rB (!(s==u))):=
 Nr hx hy (fun _ _=>by simp [Op.stringOp]) (fun _ _=>rfl) (fun _ _=>rfl)
theorem UI{u:xC}(hx:aJ E.N G x (tD rS s))(hy:aJ E.N G y (tD rS u)):bR E O G ⟨dst,.binOp .lss xt x y yt,ty,pos,after,g⟩ (tD rB (Op.bytesLess s u)):=
 Nr hx hy (fun _ _=>by simp [Op.stringOp]) (fun _ _=>rfl) (fun _ _=>rfl)
theorem UK{u:xC}(hx:aJ E.N G x (tD rS s))(hy:aJ E.N G y (tD rS u)):bR E O G ⟨dst,.binOp .gtr xt x y yt,ty,pos,after,g⟩ (tD rB (!(Op.bytesLess s u||s==u))):=
 Nr hx hy (fun _ _=>by simp [Op.stringOp]) (fun _ _=>rfl) (fun _ _=>rfl)
end
end

def Sp:TypeDesc→Bool
 | .struct _| .array _ _=>true
 |_=>false
structure TI(P:Program)(T:TypeId)(sz bytes:Nat)(agg:Bool)(z:List Value):Prop where
 info:(P.info? T).map (fun i=>(i.zero.map (·.cells.toList),i.size,i.bytes))=some (some z,sz,bytes)
 ag:(P.underlying T).map Sp=some agg
variable{T:TypeId}{bytes:Nat}{z:List Value}
section
variable{P:Program}{sz:Nat}{agg:Bool}
theorem TI.get(h:TI P T sz bytes agg z): ∃i zv,P.info? T=some i∧i.size=sz∧i.bytes=bytes∧i.zero=some zv∧zv.cells=z.toArray:=by
 have:=h.info
 cases hi:P.info? T with
 |none=>rw [hi]at this;simp at this
 |some i=>
  rw [hi]at this
  simp only [Option.map_some,A9,Prod.mk.injEq,wo]at this
  obtain⟨⟨zv,h1,h2⟩,h3,h4⟩:=this
  exact⟨i,zv,rfl,h3,h4,h1,by rw [←h2]⟩
theorem TI.sizeOf(h:TI P T sz bytes agg z)(w:World):(Go.sizeOf T).run P w= .ok sz w:=by
 obtain⟨i,zv,h1,h2,_⟩:=h.get
 simp [Go.sizeOf,typeInfo,h1,h2]
theorem TI.isAgg(h:TI P T sz bytes agg z)(w:World):(Go.isAgg T).run P w= .ok agg w:=by
 have:=h.ag
 cases hi:P.underlying T with
 |none=>rw [hi]at this;simp at this
 |some d=>
  rw [hi]at this
  simp only [Option.map_some,A9]at this
  simp only [Go.isAgg,xr,lY hi,zB]
  rw [←this]
  cases d<;>simp [Sp]
theorem TI.zero(h:TI P T sz bytes agg z)(w:World): ∃zv,(zeroValue T).run P w= .ok zv w∧zv.cells=z.toArray:=by
 obtain⟨i,zv,h1,_,_,h4,h5⟩:=h.get
 exact⟨zv,by simp [zeroValue,typeInfo,h1,h4],h5⟩
end

theorem j6(b off i:Nat):(⟨b,off,none⟩:Addr).add i=⟨b,off+i,none⟩:=by
 unfold Addr.add
 split
 ·simp_all
 ·rfl
theorem B2{b:Nat}{c:Array Value}(h:w.heap[b]? =some (.cells c T fr))(i:Nat):w.cell? ⟨b,i,none⟩=c[i]? :=by
 simp [World.cell?,h]
theorem Cp{P:Program}{b n:Nat}{c:Array Value}(h:w.heap[b]? =some (.cells c T fr))(hcs:(c.toList.drop off).take n=cs)(hl:cs.length=n):
  (loadCells ⟨b,off,none⟩ n).run P w= .ok cs.toArray w:=by
 rw [←hl]
 refine run_loadCells_list w ⟨b,off,none⟩ cs fun j v hv=>?_
 rw [j6,B2 h]
 have hj:j<cs.length:=(ke.1 hv).1
 rw [←hcs,Ch (by omega),xK]at hv
 simpa using hv
variable{U:TypeId}{rest:List Oper}
theorem me{P:Program}{b:Nat}{c:Array Value}{sz:Nat}{agg:Bool}(ti:TI P U sz bytes agg z)(h:w.heap[b]? =some (.cells c T fr)){r:Rp α}(hsz:r.sz=sz)(hag:r.agg=agg){x:α}(hx:r.rc S ((c.toList.drop off).take r.sz) x):
  (loadVar U ⟨b,off,none⟩).run P w= .ok (r.val ((c.toList.drop off).take r.sz)) w:=by
 have hl:=r.len hx
 subst hsz
 subst hag
 simp only [loadVar,xr,ti.isAgg,zB]
 cases ha:r.agg with
 |true=>simp [ti.sizeOf,Cp h rfl hl,Rp.val,ha]
 |false=>
  have h1:=r.sc ha
  have hcell:w.cell? ⟨b,off,none⟩=some (((c.toList.drop off).take r.sz).headD undef):=by
   rw [B2 h]
   rw [h1]at hl ⊢
   cases hd:c.toList.drop off with
   |nil=>rw [hd]at hl;simp at hl
   |cons v rest=>
    have:(c.toList.drop off)[0]? =some v:=by rw [hd];rfl
    rw [xK]at this
    simpa using this
  simp [hcell,Rp.val,ha]

variable{ats:Array TypeId}{q:Rp β}
section
variable{E:En}{ty:TypeId}
theorem bI{r:Rp α}{x:α}{p:Operand}{sz:Nat}{agg:Bool}(ti:TI E.P U sz bytes agg z)(hsz:r.sz=sz)(hag:r.agg=agg)(hp:aJ E.N G p (bM r x)):
  bR E O G ⟨dst,.load U p,ty,pos,after,g⟩ (tD r x):=
 .of_pure fun a w S hs _ hf=>by
  obtain⟨b,off,c,T,fr,h1,h2,h3⟩:=hp S a hf
  obtain⟨c',h4,h5⟩:=hs.part h2 (r.len h3)
  rw [←h5]at h3
  refine⟨r.val ((c'.toList.drop off).take r.sz),?_,_,rfl,h3⟩
  simp [execOp,h1,Instr.loadAt,Instr.sureAddr,me ti h4 hsz hag h3]

theorem WP(s:xC):(ByteArray.mk s.toArray).size=s.length:=by simp [ByteArray.size]
theorem cC{r:Rp α}{t:TypeId}(ht:E.P.underlying t=some (.slice e))(hx:aJ E.N G x (tD (gi r) xs)):
  bR E O G ⟨dst,.call ⟨.builtin .len,#[x],#[t]⟩,ty,pos,after,g⟩ (tD (rI .i64) (xs.length:Int)):=
 .of_pure fun a w S _ _ hf=>by
  obtain⟨ad,cap,h1,_⟩:=po.1 (hx S a hf)
  refine⟨.int .i64 xs.length,?_,di.2 rfl⟩
  simp [execOp,resolve,invoke,builtin,Builtin.len_,lY ht,h1,goInt]
theorem IY{t:TypeId}(ht:E.P.underlying t=some .string)(hx:aJ E.N G x (tD rS s)):
  bR E O G ⟨dst,.call ⟨.builtin .len,#[x],#[t]⟩,ty,pos,after,g⟩ (tD (rI .i64) (s.length:Int)):=
 .of_pure fun a w S _ _ hf=>by
  have h1:a.eval x= .string ⟨s.toArray⟩:=Cm.1 (hx S a hf)
  refine⟨.int .i64 s.length,?_,di.2 rfl⟩
  simp [execOp,resolve,invoke,builtin,Builtin.len_,lY ht,h1,goInt,WP]

def cN{α:Type}(xs:List α)(i:Int):Option α:=if 0≤i then xs[i.toNat]? else none
theorem bT(xs:List α)(i:Nat):cN xs (i:Int)=xs[i]? :=by simp [cN]
theorem Qp{r:Rp α}{a:Option Addr}(h:Kt r S a xs){x:α}(hx:xs[i]? =some x):
  ∃b off c T fr,a=some ⟨b,off,none⟩∧S b=some (.cells c T fr)∧r.rc S ((c.toList.drop (off+i*r.sz)).take r.sz) x:=by
 rcases h with rfl|⟨b,off,c,T,fr,e1,e2,e3⟩
 ·simp at hx
 ·refine⟨b,off,c,T,fr,e1,e2,?_⟩
  have h:=D8 e3 hx
  have hi:i<xs.length:=(ke.1 hx).1
  rw [A6,Ce,qL]at h
  have:min r.sz (xs.length*r.sz-i*r.sz)=r.sz:=by
   rw [←Nat.sub_mul]
   have:1*r.sz≤(xs.length-i)*r.sz:=Cg _ (by omega)
   omega
  rw [this]at h
  exact h
theorem br{r:Rp α}{y:α}{ix:Operand}{t:TypeId}{k:IntKind}{i:Int}{sz:Nat}{agg:Bool}(ht:E.P.underlying t=some (.slice e))(ti:TI E.P e sz bytes agg z)(hsz:r.sz=sz)(hx:aJ E.N G x (tD (gi r) xs))(hi:aJ E.N G ix (tD (rI k) i))(hy:cN xs i=some y):
  bR E O G ⟨dst,.indexAddr t x ix,ty,pos,after,g⟩ (bM r y):=
 .of_pure fun a w S _ _ hf=>by
  obtain⟨ad,cap,h1,_,_,h2⟩:=po.1 (hx S a hf)
  have h3:a.eval ix= .int k i:=di.1 (hi S a hf)
  have h0:0≤i:=by unfold cN at hy;split at hy;assumption;cases hy
  have hy' :xs[i.toNat]? =some y:=by unfold cN at hy;rw [aY h0]at hy;exact hy
  have hlt:i.toNat<xs.length:=(ke.1 hy').1
  obtain⟨b,off,c,T,fr,e1,e2,e3⟩:=Qp h2 hy'
  subst e1
  refine⟨.pointer (some ⟨b,off+i.toNat*r.sz,none⟩),?_,b,_,c,T,fr,rfl,e2,e3⟩
  have hc:0≤i∧i<(xs.length:Int):=⟨h0,by omega⟩
  simp [execOp,h1,h3,Instr.indexAt,asIntOf,lY ht,hc,ti.sizeOf,j6,hsz]

def qH{α β:Type}(r:Rp α)(off:Nat)(q:Rp β)(get:α→β):Prop:= ∀S cs x,r.rc S cs x→q.rc S ((cs.drop off).take q.sz) (get x)
def cV(P:Program)(T:TypeId)(i:Nat):Option (Nat×Nat):=
 match P.underlying T with
 |some (.struct fs)=>(fs[i]?).bind fun f=>(P.info? f.type).map fun q=>(f.offset,q.size)
 |_=>none
theorem Cq{P:Program}{sz:Nat}(h:cV P T i=some (off,sz)): ∃fs f,P.underlying T=some (.struct fs)∧fs[i]? =some f∧f.offset=off∧ ∀w,(sizeOf f.type).run P w= .ok sz w:=by
 unfold cV at h
 split at h
 ·rename_i fs hu
  cases hf:fs[i]? with
  |none=>rw [hf]at h;simp at h
  |some f=>
   rw [hf]at h
   cases hq:P.info? f.type with
   |none=>simp [hq]at h
   |some q=>
    simp [hq]at h
    exact⟨fs,f,hu,hf,h.1,fun w=>by simp [sizeOf,typeInfo,hq,h.2]⟩
 ·cases h
theorem qm{r:Rp α}{get:α→β}{x:α}{sz:Nat}{p:Operand}(hf:cV E.P T i=some (off,sz))(h0:Nat.beq sz 0=false)(hq:qH r off q get)(hoff:Nat.ble (off+q.sz) r.sz=true)(hp:aJ E.N G p (bM r x)):bR E O G ⟨dst,.fieldAddr T p i,ty,pos,after,g⟩ (bM q (get x)):=
 .of_pure fun a w S _ _ hF=>by
  obtain⟨b,o,c,U,fr,h1,h2,h3⟩:=hp S a hF
  obtain⟨fs,f,e1,e2,e3,e4⟩:=Cq hf
  have h0' :sz≠0:=fun e=>by subst e;simp at h0
  have hoff' :off+q.sz≤r.sz:=pw hoff
  refine⟨.pointer (some ⟨b,o+off,none⟩),?_,b,_,c,U,fr,rfl,h2,?_⟩
  ·simp [execOp,h1,Instr.fieldAt,lY e1,e2,Instr.sureAddr,fieldPlace,e4,h0',e3,j6]
  ·have:=hq S _ x h3
   rw [A6,Ce,qL,xO (by omega)]at this
   exact this
def ak(P:Program)(f:FuncId):Bool:=
 match P.funcs[f]? with
 |some fn=> !(fn.name== "runtime.NumGoroutine")&&fn.body.isSome
 |none=>false
theorem ei{P:Program}(h:ak P f=true)(args:Array Value)(w:World):(callFunc f args).run P w= .ok (.enter f args) w:=by
 unfold ak at h
 cases hf:P.funcs[f]? with
 |none=>rw [hf]at h;cases h
 |some fn=>
  rw [hf]at h
  simp only [my,DM]at h
  have h1:fn.name≠ "runtime.NumGoroutine" :=by simpa using h.1
  have h2:fn.body≠none:=fun e=>by rw [e]at h;simp at h
  simp [callFunc,hf,h1,h2]
def jV(N:Fr)(G:nm):List Operand→List Ty→Prop
 |[],[]=>True
 |x::xs,t::ts=>aJ N G x t∧jV N G xs ts
 |_,_=>False
theorem jV.tys{N:Fr}(hF:cU N S a G): ∀{xs:List Operand} {ts:List Ty},jV N G xs ts→xA S ts (xs.map a.eval)
 |[],[],_=>trivial
 |_::_,_::_,⟨h1,h2⟩=>⟨h1 S a hF,jV.tys hF h2⟩
theorem aB{xs:List Operand}(hc:ak E.P f=true)(hs:aW E.P f ts t)(hx:jV E.N G xs ts):
  bR E O G ⟨dst,.call ⟨.value (.func f),xs.toArray,ats⟩,ty,pos,after,g⟩ t:=fun a w S hS _ hF=>by
 have hr:(execOp a.eval ⟨dst,.call ⟨.value (.func f),xs.toArray,ats⟩,ty,pos,after,g⟩).run E.P w= .ok (.enter f (xs.map a.eval).toArray) w:=by
  simp [execOp,resolve,Act.eval,Deferred.ofValue,invoke,ei hc]
 refine⟨fun c h=>(by cases h),?_⟩
 rw [hr]
 exact(hs w S _ hS (hx.tys hF)).mono fun e w' ⟨v,S',he,h1,h2,h3⟩=>⟨v,he,v,S',rfl,h1,h2,h3⟩
end

theorem nQ{o:Obj}(h:k<w.heap.size):(w.alloc o).heap[k]? =w.heap[k]? :=RowKit.Below.heap_alloc w o k h
def SH.set(S:SH)(b:Nat)(o:Obj):SH:=fun k=>if k=b then some o else S k
theorem oL(S:SH)(b:Nat)(o:Obj):S.set b o b=some o:=aY rfl
theorem rr(S:SH){b:Nat}(o:Obj)(h:k≠b):S.set b o k=S k:=aK h
theorem CZ{b:Nat}{o:Obj}(h: ∀q,S b=some q→KS q o):SH.le S (S.set b o):=fun k q hq=>by
 by_cases hk:k=b
 ·subst hk;exact⟨o,oL _ _ _,h q hq⟩
 ·exact⟨q,by rw [rr _ _ hk];exact hq,vL q⟩
theorem jL.set(h:jL w S){b:Nat}{o:Obj}(h1:w.heap[b]? =some o')(h2:KS o o')(h3: ∀q,S b=some q→KS q o):jL w (S.set b o):=by
 refine⟨fun k q hq=>?_,fun p hp=>?_,fun w' hw' =>h.tb w' fun k q hq=>?_⟩
 ·by_cases hk:k=b
  ·subst hk
   rw [oL]at hq
   cases hq
   exact⟨o',h1,h2⟩
  ·rw [rr _ _ hk]at hq;exact h k q hq
 ·obtain⟨c,T,fr,g1,g2⟩:=h.gl p hp
  by_cases hk:p.1=b
  ·subst hk
   obtain⟨d,hd⟩:=h3 _ g1
   refine⟨_,T,fr,by rw [oL,hd],?_⟩
   rw [List.toList_toArray,DP ?_]
   ·exact g2
   ·have:=congrArg List.length g2
    rw [zO]at this
    omega
  ·exact⟨c,T,fr,by rw [rr _ _ hk];exact g1,g2⟩
 ·by_cases hk:k=b
  ·subst hk
   obtain⟨o1,g1,g2⟩:=hw' k o (oL _ _ _)
   exact⟨o1,g1,Hv (h3 q hq) g2⟩
  ·exact hw' k q (by rw [rr _ _ hk];exact hq)
theorem gk(o:Obj)(hs:jL w S):gn p9 w S (w.alloc o) S∧jL (w.alloc o) S∧S w.heap.size=none:=by
 refine⟨⟨rfl,rfl,rfl,dh _,by simp,fun k hk _=>nQ hk,SH.le_refl _,fun _ _ _=>rfl⟩,hs.same fun b q hb=>nQ (hs.lt hb),?_⟩
 cases h:S w.heap.size with
 |none=>rfl
 |some q=>have:=hs.lt h;omega
theorem qI(o:Obj)(hs:jL w S):gn p9 w S (w.alloc o) (S.set w.heap.size o)∧jL (w.alloc o) (S.set w.heap.size o):=by
 obtain⟨h1,h2,h3⟩:=gk o hs
 refine⟨⟨rfl,rfl,rfl,dh _,by simp,fun k hk _=>nQ hk,CZ fun q hq=>(by rw [h3]at hq;cases hq),fun k hk _=>rr _ _ (by omega)⟩,h2.set (xN w o) (vL o) fun q hq=>by rw [h3]at hq;cases hq⟩
theorem yQ(hs:jL w S):gn p9 w S w.drew S∧jL w.drew S:=⟨⟨rfl,rfl,rfl,Nat.le_succ _,dh _,fun _ _ _=>rfl,SH.le_refl _,fun _ _ _=>rfl⟩,hs.same fun _ _ _=>rfl⟩

def aT(l:Option Nat)(cap n:Nat):Value:=
 match l with
 |none=> .slice none 0 0
 |some b=> .slice (some ⟨b,0,none⟩) n cap
def Ai(w:World)(T:TypeId)(sz:Nat)(l:Option Nat)(cap n:Nat)(cells:List Value):Prop:=
 match l with
 |none=>n=0∧cells=[]
 |some b=> ∃cur,w.heap[b]? =some (.cells cur T (0,0))∧n≤cap∧cap≤maxLen∧cur.size=cap*sz∧cur.toList.take (n*sz)=cells
def CT{α:Type}(m:Bool)(r:Rp α)(T:TypeId)(l:Option Nat)(cap:Nat)(xs:List α)(w:World)(S:SH):Prop:=
 ∃cells,Ai w T r.sz l cap xs.length cells∧vf r S cells xs∧ ∀b,l=some b→S b=if m then some (.cells cells.toArray T (0,0))else none
theorem Ai.lt{sz b n:Nat}(h:Ai w T sz (some b) cap n cells):b<w.heap.size:=by
 obtain⟨cur,h1,_⟩:=h
 exact(wp.1 h1).1
theorem Ai.ext{sz n:Nat}(h:Ai w T sz l cap n cells)(k: ∀b,l=some b→w'.heap[b]? =w.heap[b]?):Ai w' T sz l cap n cells:=by
 cases l with
 |none=>exact h
 |some b=>
  obtain⟨cur,h1,h2⟩:=h
  exact⟨cur,by rw [k b rfl];exact h1,h2⟩
def mB{α:Type}(m:Bool)(r:Rp α)(T:TypeId)(l:Option Nat)(cap:Nat)(xs:List α):OE where
 fp:=fun k=>l=some k
 p:=CT m r T l cap xs
 here:=by
  intro w S h k hk
  subst hk
  obtain⟨cells,h1,_⟩:=h
  exact h1.lt
 kept:=by
  intro C w w' S S' h k hC
  obtain⟨cells,h1,h2,h3⟩:=h
  refine⟨cells,h1.ext fun b hb=>?_,tY k.keep h2,fun b hb=>?_⟩
  ·subst hb;exact k.heap b h1.lt (hC b rfl)
  ·subst hb;rw [k.old b h1.lt (hC b rfl)];exact h3 b rfl
abbrev fE{α:Type}(r:Rp α)(T:TypeId)(l:Option Nat)(cap:Nat)(xs:List α):OE:=mB false r T l cap xs
abbrev dW{α:Type}(r:Rp α)(T:TypeId)(l:Option Nat)(cap:Nat)(xs:List α):OE:=mB true r T l cap xs
def app{α:Type}(xs ys:List α):Option (List α):=if xs.length+ys.length≤68719476736 then some (xs++ys)else none
variable{zs:List α}
theorem TJ(h:app xs ys=some zs):zs=xs++ys∧xs.length+ys.length≤68719476736:=by
 unfold app at h
 split at h
 ·exact⟨by simpa using h.symm,by assumption⟩
 ·cases h
variable{news:List Value}
theorem zE{P:Program}{t tx ty:TypeId}{i:TypeInfo}(ht:P.underlying t=some (.slice e))(hi:P.info? e=some i){g sLen sCap:Nat}{cur:Array Value}(hg:w.heap[g]? =some (.cells cur e (0,0))){x:Value}{n:Nat}(hs:Src P i.size tx x n news w)(hroom:sLen+n≤sCap)(hfit:sLen*i.size+news.length≤cur.size):
  (Builtin.append_ #[t,tx] ty #[.slice (some ⟨g,0,none⟩) sLen sCap,x]).run P w=
   .ok (.slice (some ⟨g,0,none⟩) (sLen+n) sCap) (w.setRow g (cur.toList.take (sLen*i.size)++news++cur.toList.drop (sLen*i.size+news.length)).toArray):=by
 have hst:=run_storeCells_at P g (sLen*i.size) e news 0 cur w hg (by simpa using hfit) hs.one
 simp only [xD]at hst
 rcases hs.kind with⟨e',hk⟩|hk<;>simp [Builtin.append_,lY ht,lY hk,sizeOf,typeInfo,hi,hs.len,hroom,hs.cells,Addr.add_lit,hst]
structure X1(l:Option Nat)(w w' :World):Prop where
 os:w'.os=w.os
 tape:w'.tape=w.tape
 output:w'.output=w.output
 drawn:w.drawn≤w'.drawn
 size:w.heap.size≤w'.heap.size
 heap: ∀k,k<w.heap.size→l≠some k→w'.heap[k]? =w.heap[k]?
variable{t' :TypeId}
theorem E1{P:Program}{t ty:TypeId}{sz:Nat}{agg:Bool}{n m:Nat}{x:Value}(ti:TI P T sz bytes agg z)(hz:Nat.beq z.length sz=true)(h0:Nat.blt 0 sz=true)(h128:Nat.ble bytes 2048=true)(ht:P.underlying t=some (.slice T))(h:Ai w T sz l cap n cells)(hs:Src P sz t' x m news w)(hlen:n+m≤68719476736):
  ∃l' cap' w',(Builtin.append_ #[t,t'] ty #[aT l cap n,x]).run P w= .ok (aT l' cap' (n+m)) w' ∧Ai w' T sz l' cap' (n+m) (cells++news)∧X1 l w w' ∧(∀b,l' =some b→l=some b∨w.heap.size≤b)∧(∀b,l=some b→l' ≠some b→w'.heap[b]? =w.heap[b]?):=by
 obtain⟨i,zv,hi,h1,h2,h3,h4⟩:=ti.get
 have h128' :=pw h128
 have h0' :0<sz:=by simpa [xq] using h0
 have hz2:z.length=sz:=o7 hz
 subst h1
 have hnl:=hs.newsLen
 have hbytes:(n+m)*i.bytes≤140737488355328:=zN (xu hlen (by omega:i.bytes≤2048)) (by omega)
 by_cases hm:m=0
 ·subst hm
  have hn0:news=[]:=uD (by simpa using hnl)
  subst hn0
  refine⟨l,cap,w,?_,by simpa using h,⟨rfl,rfl,rfl,dh _,dh _,fun _ _ _=>rfl⟩,fun b hb=> .inl hb,fun b _ _=>rfl⟩
  cases l with
  |none=>
   obtain⟨rfl,_⟩:=h
   exact run_append_nothing w t t' ty T i ht hi none 0 0 (dh _) _ hs
  |some b=>
   obtain⟨cur,_,hle,_⟩:=h
   exact run_append_nothing w t t' ty T i ht hi (some ⟨b,0,none⟩) n cap hle _ hs
 have YS: ∀old,old<n+m→Builtin.nextslicecap (n+m) old*i.bytes≤281474976710656:=fun old ho=>growslice_fits ho hbytes
 -- a new row
 have fresh: ∀(base:Option Addr) (olds:List Value),aT l cap n= .slice base n cap→olds=cells→cap<n+m→(Builtin.firstCells i.size n (.slice base n cap)).run P w.drew= .ok olds.toArray w.drew→cells.length=n*i.size→
   ∃l' cap' w',(Builtin.append_ #[t,t'] ty #[aT l cap n,x]).run P w= .ok (aT l' cap' (n+m)) w' ∧Ai w' T i.size l' cap' (n+m) (cells++news)∧X1 l w w' ∧(∀b,l' =some b→l=some b∨w.heap.size≤b)∧(∀b,l=some b→l' ≠some b→w'.heap[b]? =w.heap[b]?):=by
  intro base olds hv he hg hf hcl
  subst he
  have hr:=run_append_grow_src (P:=P) w t t' ty T i zv ht hi h3 base n cap olds hf x m news hs hg (by omega) (YS cap hg)
  have hge:=grownCap_ge w (n+m) cap T
  rw [←hv]at hr
  refine⟨some w.heap.size,grownCap w (n+m) cap T,_,hr,⟨_,xN w.drew _,hge,grownCap_le_maxLen _ _ _ _ (by simp only [maxLen];omega),?_,?_⟩,⟨rfl,rfl,rfl,Nat.le_succ _,by simp,fun k hk _=>?_⟩,fun b hb=> .inr (A5 (p5 hb)),fun b hb _=>?_⟩
  ·have:(Builtin.zeroCells zv.cells (grownCap w (n+m) cap T-(n+m))).size=(grownCap w (n+m) cap T-(n+m))*i.size:=by
    rw [size_zeroCells,h4];simp [hz2]
   simp only [Array.size_append,G6,jg,hcl,hnl,this]
   rw [←u8,←u8]
   congr 1;omega
  ·have hl2:(olds++news).length=(n+m)*i.size:=by rw [jg,hcl,hnl,u8]
   rw [Array.toList_append,DP (by simp only [List.toList_toArray];omega)]
   simp only [List.toList_toArray]
   exact sK (by omega)
  ·exact nQ (w:=w.drew) hk
  ·cases l with
   |none=>cases hb
   |some b0=>
    have hb' :b0=b:=p5 hb
    subst hb'
    exact nQ (w:=w.drew) (Ai.lt h)
 cases l with
 |none=>
  obtain⟨rfl,rfl⟩:=h
  have:=run_append_grow_src (P:=P) w t t' ty T i zv ht hi h3 none 0 0 [] (run_firstCells_none w.drew i.size 0 0 0) x m news hs (by omega) (by omega) (YS 0 (by omega))
  have hge:=grownCap_ge w (0+m) 0 T
  refine⟨some w.heap.size,grownCap w (0+m) 0 T,_,this,⟨_,xN w.drew _,hge,grownCap_le_maxLen _ _ _ _ (by simp only [maxLen];omega),?_,?_⟩,⟨rfl,rfl,rfl,Nat.le_succ _,by simp,fun k hk _=>?_⟩,fun b hb=> .inr (A5 (p5 hb)),fun b hb=>(by cases hb)⟩
  ·have:(Builtin.zeroCells zv.cells (grownCap w (0+m) 0 T-(0+m))).size=(grownCap w (0+m) 0 T-(0+m))*i.size:=by
    rw [size_zeroCells,h4];simp [hz2]
   simp only [Array.size_append,G6,kz,hnl,this]
   rw [←u8]
   congr 1;omega
  ·rw [Array.toList_append,DP (by simp [hnl])]
   simp only [kz,qS]
   exact sK (by omega)
  ·exact nQ (w:=w.drew) hk
 |some b=>
  obtain⟨cur,hb,hle,hmax,hcs,hct⟩:=h
  have hcl:cells.length=n*i.size:=by
   rw [←hct,zO,Ey,hcs]
   exact xO (Cg _ hle)
  by_cases hroom:n+m≤cap
  ·have hfit:n*i.size+news.length≤cur.size:=by rw [hnl,hcs,←u8];exact Cg _ hroom
   have hr:=zE (t:=t) (tx:=t') (ty:=ty) ht hi hb hs hroom hfit
   refine⟨some b,cap,_,hr,⟨_,setRow_heap w b cur _ T _ hb,hroom,hmax,?_,?_⟩,⟨rfl,rfl,rfl,dh _,by simp [World.setRow],fun k hk hkb=>setRow_other w b k _ (fun e=>hkb (by rw [e]))⟩,fun b' hb' => .inl hb',fun b' hb' hne=>absurd hb' hne⟩
   ·simp only [G6,jg,zO,Ex,Ey]
    omega
   ·rw [hct,u8,←hnl,←hcl,show cells.length+news.length=(cells++news).length from by simp]
    exact List.take_left
  ·refine fresh (some ⟨b,0,none⟩) cells rfl rfl (by omega) (run_firstCells_some w.drew i.size n ⟨b,0,none⟩ n cap cells hcl fun j v hv=>?_) hcl
   have hj:j<cells.length:=(ke.1 hv).1
   have hcell:w.cell? ⟨b,j,none⟩=cur[j]? :=B2 hb j
   rw [j6]
   show w.cell? ⟨b,0+j,none⟩=_
   rw [qS,hcell]
   rw [←hct,Ch (by omega)]at hv
   simpa using hv
theorem xY{P:Program}{r:Rp α}{e' :TypeId}(ht:P.underlying t' =some (.slice e'))(hs:jL w S)(hv:(tD (gi r) ys).p S v): ∃news,Src P r.sz t' v ys.length news w∧vf r S news ys:=by
 obtain⟨ad,c2,rfl,hcap,hmax,hsl⟩:=po.1 hv
 rcases hsl with rfl|⟨b,off,c,U,fr,e1,e2,e3⟩
 ·refine⟨[],?_,rfl⟩
  cases ad with
  |none=>exact .ofNil w ht c2
  |some a=>exact .ofSlice w ht a 0 c2 [] (by simp) (fun j u hu=>by simp at hu) (fun u hu=>by cases hu)
 ·subst e1
  obtain⟨c',h4,h5⟩:=hs.part e2 (pq e3)
  refine⟨_,.ofSlice w ht ⟨b,off,none⟩ ys.length c2 _ (pq e3) (fun j u hu=>?_) (D7 e3),e3⟩
  rw [j6,B2 h4]
  rw [←h5]at hu
  have hj:j<ys.length*r.sz:=by
   have:=(ke.1 hu).1
   simp at this;omega
  rw [Ch hj,xK]at hu
  simpa using hu
variable{mm:Bool}
theorem ye{P:Program}{r:Rp α}{t ty:TypeId}{sz:Nat}{agg:Bool}{base:Nat}{B:Nat→Prop}(ti:TI P T sz bytes agg z)(hsz:r.sz=sz)(hz:Nat.beq z.length sz=true)(h0:Nat.blt 0 sz=true)(h128:Nat.ble bytes 2048=true)(ht:P.underlying t=some (.slice T))(hs:jL w S)(h:(mB mm r T l cap xs).holds base B w S)(hb:base≤w.heap.size)(hsrc:Src P r.sz t' v ys.length news w)(hrc:vf r S news ys)(hz' :app xs ys=some zs):
  ∃l' cap' w' S',(Builtin.append_ #[t,t'] ty #[aT l cap xs.length,v]).run P w= .ok (aT l' cap' zs.length) w' ∧gn (fun k=>l=some k) w S w' S' ∧jL w' S' ∧(mB mm r T l' cap' zs).holds base B w' S' ∧(∀b,l' =some b→l=some b∨w.heap.size≤b):=by
 subst hsz
 obtain⟨rfl,hlen⟩:=TJ hz'
 obtain⟨⟨cells,h1,h2,h3⟩,hbase⟩:=h
 obtain⟨l',cap',w',hr,hraw,hg,hnew,hold⟩:=E1 (ty:=ty) ti hz h0 h128 ht h1 hsrc hlen
 have hrc' :vf r S (cells++news) (xs++ys):=wH h2 hrc
 -- what stood settled stands
 have hsat0: ∀k o,S k=some o→ ∃o',w'.heap[k]? =some o' ∧KS o o' :=fun k o hk=>by
  have hlt:=hs.lt hk
  by_cases hkl:l=some k
  ·obtain⟨o',e1,e2⟩:=hs k o hk
   by_cases hkl' :l' =some k
   ·subst hkl'
    subst hkl
    have h3' :=h3 k rfl
    cases mm with
    |false=>rw [h3']at hk;cases hk
    |true=>
     rw [h3']at hk
     cases hk
     obtain⟨cur',g1,g2,g3,g4,g5⟩:=hraw
     refine⟨_,g1,?_⟩;refine⟨news++cur'.toList.drop ((xs.length+ys.length)*r.sz),?_⟩
     congr 1
     apply Array.ext'
     rw [←jX,←g5,wn]
   ·rw [hold k hkl hkl'];exact hs k o hk
  ·rw [hg.heap k hlt hkl];exact hs k o hk
 have hsat:jL w' S:=⟨hsat0,hs.gl,hs.tb⟩
 have hSn: ∀b,l' =some b→l≠some b→S b=none:=fun b hb' hne=>by
  cases hq:S b with
  |none=>rfl
  |some q=>
   have:=hs.lt hq
   rcases hnew b hb' with h|h
   ·exact absurd h hne
   ·omega
 have hbase' : ∀k,l' =some k→base≤k∨B k:=fun k hk=>by
  rcases hnew k hk with h|h
  ·exact hbase k h
  ·exact .inl (by omega)
 have hz2:(xs++ys).length=xs.length+ys.length:=jg
 cases mm with
 |false=>
  refine⟨l',cap',w',S,by rw [hz2];exact hr,⟨hg.os,hg.tape,hg.output,hg.drawn,hg.size,fun k hk hkb=>hg.heap k hk hkb,SH.le_refl _,fun _ _ _=>rfl⟩,hsat,⟨⟨cells++news,by rw [hz2];exact hraw,hrc',fun b hb' =>?_⟩,hbase'⟩,hnew⟩
  by_cases hlb:l=some b
  ·exact h3 b hlb
  ·exact hSn b hb' hlb
 |true=>
  cases l' with
  |none=>
   refine⟨none,cap',w',S,by rw [hz2];exact hr,⟨hg.os,hg.tape,hg.output,hg.drawn,hg.size,fun k hk hkb=>hg.heap k hk hkb,SH.le_refl _,fun _ _ _=>rfl⟩,hsat,⟨⟨cells++news,by rw [hz2];exact hraw,hrc',fun b hb' =>(by cases hb')⟩,hbase'⟩,hnew⟩
  |some g=>
   have hq3: ∀q,S g=some q→KS q (.cells (cells++news).toArray T (0,0)):=fun q hq=>by
    by_cases hlb:l=some g
    ·have h4:S g=some (.cells cells.toArray T (0,0)):=h3 g hlb
     rw [h4]at hq
     cases hq
     exact⟨news,by simp⟩
    ·rw [hSn g rfl hlb]at hq;cases hq
   have hle:SH.le S (S.set g (.cells (cells++news).toArray T (0,0))):=CZ hq3
   obtain⟨cur',g1,g2,g3,g4,g5⟩:=hraw
   refine⟨some g,cap',w',S.set g (.cells (cells++news).toArray T (0,0)),by rw [hz2];exact hr,⟨hg.os,hg.tape,hg.output,hg.drawn,hg.size,fun k hk hkb=>hg.heap k hk hkb,hle,fun k hk hkb=>rr _ _ ?_⟩,hsat.set g1 ?_ hq3,⟨⟨cells++news,by rw [hz2];exact⟨cur',g1,g2,g3,g4,g5⟩,tY hle hrc',fun b hb' =>?_⟩,hbase'⟩,hnew⟩
   ·rintro rfl
    rcases hnew k rfl with h|h
    ·exact hkb h
    ·omega
   ·refine⟨cur'.toList.drop ((xs.length+ys.length)*r.sz),?_⟩
    congr 1
    apply Array.ext'
    rw [←g5,wn]
   ·have hb2:g=b:=p5 hb'
    subst hb2
    exact oL _ _ _

theorem Oh{e f:OE}(h:e.apart f):f.apart e:=fun b hb he=>h b he hb
theorem cL.swap{base:Nat}{B:Nat→Prop}{e f:OE}(h:cL base B w S (e::f::O)):cL base B w S (f::e::O):=by
 obtain⟨h1,h2,h3,h4,h5⟩:=h
 refine⟨h3,?_,h1,?_,h5⟩
 ·intro g hg
  rcases fx.1 hg with rfl|hg
  ·exact Oh (h2 _ (kZ ..))
  ·exact h4 g hg
 ·intro g hg
  exact h2 g (kN _ hg)
theorem sn{base:Nat}{B:Nat→Prop}{e:OE}{O' :List OE}(h:cL base B w S (e::O))(k:cL base B w S O→cL base B w S O')(hm: ∀f∈O',f∈O):cL base B w S (e::O'):=
 ⟨h.1,fun f hf=>h.2.1 f (hm f hf),k h.2.2⟩
theorem uy{base:Nat}{B:Nat→Prop}{a b c:OE}(h:cL base B w S (a::b::c::O)):cL base B w S (c::a::b::O):=
 (sn h cL.swap (fun f hf=>by simp only [fx]at hf ⊢;rcases hf with h|h|h<;>simp [h])).swap
theorem ux{base:Nat}{B:Nat→Prop}{a b c d:OE}(h:cL base B w S (a::b::c::d::O)):cL base B w S (d::a::b::c::O):=
 (sn h uy (fun f hf=>by simp only [fx]at hf ⊢;rcases hf with h|h|h|h<;>simp [h])).swap
theorem uw{base:Nat}{B:Nat→Prop}{a b c d e:OE}(h:cL base B w S (a::b::c::d::e::O)):cL base B w S (e::a::b::c::d::O):=
 (sn h ux (fun f hf=>by simp only [fx]at hf ⊢;rcases hf with h|h|h|h|h<;>simp [h])).swap

section
variable{E:En}
theorem St.own_map{O' :List OE}(h:St E O G a w S)(k:cL E.base E.B w S O→cL E.base E.B w S O'):St E O' G a w S:=⟨h.ext,h.sat,k h.own,h.facts⟩
theorem St.base_le(h:St E O G a w S):E.base≤w.heap.size:=h.ext.size
theorem St.drop{e:OE}(h:St E (e::O) G a w S):St E O G a w S:=h.own_map fun h=>h.2.2
theorem St.fresh(mm:Bool)(r:Rp α)(T:TypeId)(h:St E O G a w S):St E (mB mm r T none 0 []::O) G a w S:=
 h.own_map fun h=>by refine⟨⟨⟨[],⟨rfl,rfl⟩,rfl,fun b hb=>(by cases hb)⟩,fun k hk=>?_⟩,fun f _ b hb=>?_,h⟩<;>(first|cases hk|cases hb)
theorem Ax{e:OE}{b:Nat}{o:Obj}(h:St E (e::O) G a w S)(hb:e.fp b)(ho:w.heap[b]? =some o')(hoo:KS o o')(hn:S b=none):St E O G a w (S.set b o)∧SH.le S (S.set b o)∧gn (fun k=>k=b) w S w (S.set b o)∧jL w (S.set b o):=by
 have hbase:=h.own.1.2 b hb
 have hle:SH.le S (S.set b o):=CZ fun q hq=>(by rw [hn]at hq;cases hq)
 have hsat:jL w (S.set b o):=h.sat.set ho hoo fun q hq=>by rw [hn]at hq;cases hq
 have hext:gn (fun k=>k=b) w S w (S.set b o):=⟨rfl,rfl,rfl,dh _,dh _,fun _ _ _=>rfl,hle,fun k _ hk=>rr _ _ hk⟩
 refine⟨⟨h.ext.step hext fun c hc=>by subst hc;exact hbase,hsat,h.own.2.2.ext hext fun f hf c hc hm=>?_,h.facts.mono hle⟩,hle,hext,hsat⟩
 subst hm
 exact h.own.2.1 f hf c hb hc
def tO{α:Type}(r:Rp α)(l:Option Nat)(cap:Nat)(xs:List α):Ty where
 p:=fun S v=>v=aT l cap xs.length∧(tD (gi r) xs).p S v
 mono:=fun h ⟨h1,h2⟩=>⟨h1,Ty.mono _ h h2⟩
theorem Is{N:Fr}{G:nm}{r:Rp α}(h:aJ N G x (tO r l cap xs)):aJ N G x (tV (aT l cap xs.length)):=fun S a hf=>(h S a hf).1
theorem lb{N:Fr}{G:nm}{r:Rp α}(h:aJ N G x (tO r l cap xs)):aJ N G x (tD (gi r) xs):=fun S a hf=>(h S a hf).2
theorem qe{r:Rp α}{w:World}{S:SH}(h:CT true r T l cap xs w S):(tD (gi r) xs).p S (aT l cap xs.length):=by
 obtain⟨cells,h1,h2,h3⟩:=h
 cases l with
 |none=>
  have hx:xs=[]:=uD h1.1
  subst hx
  exact OG
 |some b=>
  obtain⟨cur,g1,g2,g3,g4,g5⟩:=h1
  refine po.2 ⟨_,cap,rfl,g2,g3,.inr ⟨b,0,cells.toArray,T,(0,0),rfl,h3 b rfl,?_⟩⟩
  have:=pq h2
  rw [zz,sK (by simp [this])]
  exact h2
theorem St.freeze{r:Rp α}(h:St E (fE r T l cap xs::O) G a w S):
  ∃S',St E (dW r T l cap xs::O) G a w S' :=by
 obtain⟨⟨cells,h1,h2,h3⟩,hbase⟩:=h.own.1
 cases l with
 |none=>exact⟨S,h.ext,h.sat,⟨⟨⟨cells,h1,h2,fun b hb=>(by cases hb)⟩,hbase⟩,h.own.2⟩,h.facts⟩
 |some b=>
  obtain⟨cur,g1,g2,g3,g4,g5⟩:=h1
  have hoo:KS (.cells cells.toArray T (0,0)) (.cells cur T (0,0)):=by
   refine⟨cur.toList.drop (xs.length*r.sz),?_⟩
   congr 1
   apply Array.ext'
   rw [←g5,wn]
  obtain⟨h8,hle,_,_⟩:=Ax h rfl g1 hoo (h3 b rfl)
  refine⟨_,h8.ext,h8.sat,⟨⟨⟨cells,⟨cur,g1,g2,g3,g4,g5⟩,tY hle h2,fun b' hb' =>?_⟩,hbase⟩,h.own.2.1,h8.own⟩,h8.facts⟩
  have hb2:b=b' :=p5 hb'
  subst hb2
  exact oL _ _ _
theorem St.settle{r:Rp α}(h:St E (mB mm r T l cap xs::O) G a w S):
  ∃S',St E O G a w S' ∧(tD (gi r) xs).p S' (aT l cap xs.length):=by
 cases mm with
 |true=>exact⟨S,h.drop,qe h.own.1.1⟩
 |false=>
  obtain⟨S',h1⟩:=h.freeze
  exact⟨S',h1.drop,qe h1.own.1.1⟩
end

section
variable{E:En}{e:Exit}
theorem NT{N:Fr}(h:cU N S a G)(hk:t.p S (a.tmps.getD k undef)):cU N S a ((k,t)::G):=
 ⟨h.size,h.defers,fun j u hj=>by
  unfold dn at hj
  by_cases hb:Nat.beq k j=true
  ·rw [hb]at hj
   have:=o7 hb
   subst this
   rw [←show t=u from by simpa using hj];exact hk
  ·rw [Al]at hb
   rw [hb]at hj
   exact h.at_ j u hj⟩
theorem St.cons(h:St E O G a w S)(hk:t.p S (a.tmps.getD k undef)):St E O ((k,t)::G) a w S:=⟨h.ext,h.sat,h.own,NT h.facts hk⟩
theorem St.tipAt{r:Rp α}{n:Nat}(h:St E (dW r T l cap xs::O) G a w S)(hk:dn G k=some (tV (aT l cap n)))(hn:n=xs.length):
  St E (dW r T l cap xs::O) ((k,tO r l cap xs)::G) a w S:=by
 subst hn
 have hv:a.tmps.getD k undef=aT l cap xs.length:=h.facts.at_ k _ hk
 exact h.cons ⟨hv,by rw [hv];exact qe h.own.1.1⟩
theorem bP(mm:Bool)(r:Rp α)(T:TypeId)(h:RG E ops Q rest (mB mm r T none 0 []::O) G):RG E ops Q rest O G:=fun a w S st=>h a w S (st.fresh mm r T)
theorem WZ{f:OE}(h:RG E ops Q rest O G):RG E ops Q rest (f::O) G:=fun a w S st=>h a w S st.drop
theorem CG.drop{f:OE}(h:CG E Q c O G):CG E Q c (f::O) G:=fun a w S st=>h a w S st.drop
theorem bf{f:OE}(h:AT E Q e O G):AT E Q e (f::O) G:=fun a w S st=>h a w S st.drop
theorem bH{x y:OE}(h:RG E ops Q rest (y::x::O) G):RG E ops Q rest (x::y::O) G:=fun a w S st=>h a w S (st.own_map cL.swap)
theorem bD{x y:OE}(h:AT E Q e (y::x::O) G):AT E Q e (x::y::O) G:=fun a w S st=>h a w S (st.own_map cL.swap)
theorem il{x y z:OE}(h:RG E ops Q rest (z::x::y::O) G):RG E ops Q rest (x::y::z::O) G:=fun a w S st=>h a w S (st.own_map uy)
theorem aL{x y z:OE}(h:AT E Q e (z::x::y::O) G):AT E Q e (x::y::z::O) G:=fun a w S st=>h a w S (st.own_map uy)
theorem kI{x y z:OE}(h:RG E ops Q rest (u::x::y::z::O) G):RG E ops Q rest (x::y::z::u::O) G:=fun a w S st=>h a w S (st.own_map ux)
theorem cD{x y z:OE}(h:AT E Q e (u::x::y::z::O) G):AT E Q e (x::y::z::u::O) G:=fun a w S st=>h a w S (st.own_map ux)
theorem zt{x y z v:OE}(h:RG E ops Q rest (v::x::y::z::u::O) G):RG E ops Q rest (x::y::z::u::v::O) G:=fun a w S st=>h a w S (st.own_map uw)
theorem fC{x y z v:OE}(h:AT E Q e (v::x::y::z::u::O) G):AT E Q e (x::y::z::u::v::O) G:=fun a w S st=>h a w S (st.own_map uw)
theorem rL{f:OE}(h:LG E Q c O G):LG E Q c (f::O) G:=fun a w S st=>h a w S st.drop
theorem im{x y:OE}(h:LG E Q c (y::x::O) G):LG E Q c (x::y::O) G:=fun a w S st=>h a w S (st.own_map cL.swap)
theorem rt{x y z:OE}(h:LG E Q c (z::x::y::O) G):LG E Q c (x::y::z::O) G:=fun a w S st=>h a w S (st.own_map uy)
theorem nV{x y z:OE}(h:LG E Q c (u::x::y::z::O) G):LG E Q c (x::y::z::u::O) G:=fun a w S st=>h a w S (st.own_map ux)
theorem lj{x y z v:OE}(h:LG E Q c (v::x::y::z::u::O) G):LG E Q c (x::y::z::u::v::O) G:=fun a w S st=>h a w S (st.own_map uw)
theorem kJ{r:Rp α}(h:RG E ops Q rest (dW r T l cap xs::O) G):RG E ops Q rest (fE r T l cap xs::O) G:=fun a w _ st=>let⟨S',st'⟩:=st.freeze;h a w S' st'
theorem jM{r:Rp α}{n:Nat}(k:Nat)(hk:dn G k=some (tV (aT l cap n)))(h:RG E ops Q rest (dW r T l cap xs::O) ((k,tO r l cap xs)::G))(hn:n=xs.length:=by rfl):RG E ops Q rest (dW r T l cap xs::O) G:=fun a w S st=>h a w S (st.tipAt hk hn)
theorem jQ{r:Rp α}(h:AT E Q e (dW r T l cap xs::O) G):AT E Q e (fE r T l cap xs::O) G:=fun a w _ st=>let⟨S',st'⟩:=st.freeze;h a w S' st'
theorem cG{r:Rp α}{n:Nat}(k:Nat)(hk:dn G k=some (tV (aT l cap n)))(h:AT E Q e (dW r T l cap xs::O) ((k,tO r l cap xs)::G))(hn:n=xs.length:=by rfl):AT E Q e (dW r T l cap xs::O) G:=fun a w S st=>h a w S (st.tipAt hk hn)
theorem ba{r:Rp α}(hk:dn G k=some (tD (gi r) xs))(h:xs.length≤maxLen→CG E Q c O G):CG E Q c O G:=fun a w S st=>by
 obtain⟨_,_,_,h1,h2,_⟩:=po.1 (st.facts.at_ k _ hk)
 exact h (zN h1 h2) a w S st

section
variable{ty:TypeId}
theorem St.append{r:Rp α}{t ty:TypeId}{sz:Nat}{agg:Bool}(ti:TI E.P T sz bytes agg z)(hsz:r.sz=sz)(hz:Nat.beq z.length sz=true)(h0:Nat.blt 0 sz=true)(h128:Nat.ble bytes 2048=true)(ht:E.P.underlying t=some (.slice T))(st:St E (mB mm r T l cap xs::O) G a w S)(hsrc:Src E.P r.sz t' v ys.length news w)(hrc:vf r S news ys)(happ:app xs ys=some zs):
  ∃l' cap' w' S',(Builtin.append_ #[t,t'] ty #[aT l cap xs.length,v]).run E.P w= .ok (aT l' cap' zs.length) w' ∧St E (mB mm r T l' cap' zs::O) G a w' S' :=by
 obtain⟨l',cap',w',S',hr,hext,hsat,hh,hnew⟩:=ye (ty:=ty) ti hsz hz h0 h128 ht st.sat st.own.1 st.base_le hsrc hrc happ
 refine⟨l',cap',w',S',hr,st.ext.step hext fun b hb=>st.own.1.2 b hb,hsat,⟨hh,fun f hf b hb hfb=>?_,st.own.2.2.ext hext fun f hf b hb hbl=>st.own.2.1 f hf b hbl hb⟩,st.facts.mono hext.keep⟩
 rcases hnew b hb with h|h
 ·exact st.own.2.1 f hf b h hfb
 ·have:=f.here (cL.mem st.own.2.2 f hf).1 b hfb
  omega
theorem St.put{d:Nat}(h:St E O G a w S)(hd:Nat.blt d E.N.n=true)(hv:t.p S v):St E O ((d,t)::G) (a.put (some d) v) w S:=⟨h.ext,h.sat,h.own,h.facts.put hd hv⟩
theorem AR{r:Rp α}{t:TypeId}{sz:Nat}{agg:Bool}{n:Nat}{u:Nat→Option Nat→Ty}(ti:TI E.P T sz bytes agg z)(hsz:r.sz=sz)(hz:Nat.beq z.length sz=true)(h0:Nat.blt 0 sz=true)(h128:Nat.ble bytes 2048=true)(ht:E.P.underlying t=some (.slice T))(hd:Nat.blt d E.N.n=true)(hx:aJ E.N G x (tV (aT l cap n)))(hy: ∀a w S,St E (mB mm r T l cap xs::O) G a w S→ ∃news,Src E.P r.sz t' (a.eval y) ys.length news w∧vf r S news ys)(happ:app xs ys=some zs)(hu: ∀l' cap' w0 S,(mB mm r T l' cap' zs).p w0 S→(u cap' l').p S (aT l' cap' zs.length))(k: ∀l' cap',RG E ops Q rest (mB mm r T l' cap' zs::O) ((d,u cap' l')::G))(hn:n=xs.length):
  RG E ops Q (⟨some d,.call ⟨.builtin .append,#[x,y],#[t,t']⟩,ty,pos,after,none⟩::rest) (mB mm r T l cap xs::O) G:= .of rfl fun a w S st=>by
 subst hn
 have h1:a.eval x=aT l cap xs.length:=hx S a st.facts
 obtain⟨news,h2,h3⟩:=hy a w S st
 obtain⟨l',cap',w',S',hr,st'⟩:=st.append (ty:=ty) ti hsz hz h0 h128 ht h2 h3 happ
 have hrun:(execOp a.eval ⟨some d,.call ⟨.builtin .append,#[x,y],#[t,t']⟩,ty,pos,after,none⟩).run E.P w= .ok (.value (aT l' cap' zs.length)) w' :=by
  simp [execOp,resolve,invoke,builtin,h1,hr]
 refine⟨fun c h=>(by cases h),?_⟩
 rw [hrun]
 exact k l' cap' _ _ S' (st'.put hd (hu l' cap' w' S' st'.own.1.1))
theorem db{r:Rp α}{t:TypeId}{sz:Nat}{agg:Bool}{n:Nat}(ti:TI E.P T sz bytes agg z)(hsz:r.sz=sz)(hz:Nat.beq z.length sz=true)(h0:Nat.blt 0 sz=true)(h128:Nat.ble bytes 2048=true)(ht:E.P.underlying t=some (.slice T))(ht' :t' =t)(hd:Nat.blt d E.N.n=true)(hx:aJ E.N G x (tV (aT l cap n)))(hy:aJ E.N G y (tD (gi r) ys))(happ:app xs ys=some zs)(k: ∀l' cap',RG E ops Q rest (fE r T l' cap' zs::O) ((d,tV (aT l' cap' zs.length))::G))(hn:n=xs.length:=by rfl):
  RG E ops Q (⟨some d,.call ⟨.builtin .append,#[x,y],#[t,t']⟩,ty,pos,after,none⟩::rest) (fE r T l cap xs::O) G:=by
 subst ht'
 exact AR (u:=fun cap' l' =>tV (aT l' cap' zs.length)) ti hsz hz h0 h128 ht hd hx (fun a w S st=>xY ht st.sat (hy S a st.facts)) happ (fun _ _ _ _ _=>rfl) k hn
theorem AQ{r:Rp α}{t:TypeId}{sz:Nat}{agg:Bool}(ti:TI E.P T sz bytes agg z)(hsz:r.sz=sz)(hz:Nat.beq z.length sz=true)(h0:Nat.blt 0 sz=true)(h128:Nat.ble bytes 2048=true)(ht:E.P.underlying t=some (.slice T))(ht' :t' =t)(hd:Nat.blt d E.N.n=true)(hx:aJ E.N G x (tO r l cap xs))(hy:aJ E.N G y (tD (gi r) ys))(happ:app xs ys=some zs)(k: ∀l' cap',RG E ops Q rest (dW r T l' cap' zs::O) ((d,tO r l' cap' zs)::G)):
  RG E ops Q (⟨some d,.call ⟨.builtin .append,#[x,y],#[t,t']⟩,ty,pos,after,none⟩::rest) (dW r T l cap xs::O) G:=by
 subst ht'
 exact AR (u:=fun cap' l' =>tO r l' cap' zs) ti hsz hz h0 h128 ht hd (Is hx) (fun a w S st=>xY ht st.sat (hy S a st.facts)) happ (fun _ _ _ _ h=>⟨rfl,qe h⟩) k rfl
end
end

theorem BH(off:Nat): ∀(cs:List Value) (k:Nat) (pre mid post:List Value),mid.length=cs.length→pre.length=off+k→
  (cs.zipIdx k).foldl (fun(a:Array Value) x=>a.setIfInBounds (off+x.2) x.1) (pre++mid++post).toArray=(pre++cs++post).toArray
 |[],k,pre,mid,post,hm,_=>by
  have:mid=[]:=uD hm
  subst this;simp
 |c::cs,k,pre,mid,post,hm,hp=>by
  cases mid with
  |nil=>simp at hm
  |cons m mid=>
   simp only [List.zipIdx_cons,List.foldl_cons]
   have h1:(pre++(m::mid)++post).toArray.setIfInBounds (off+k) c=((pre++[c])++mid++post).toArray:=by
    rw [←hp]
    simp
   rw [h1,BH off cs (k+1) (pre++[c]) mid post (by simpa using hm) (by simp;omega)]
   simp
theorem Bj(v:Value)(off:Nat)(pre mid post:List Value)(hm:mid.length=v.cells.size)(hp:pre.length=off):
  v.cells.zipIdx.foldl (fun cs (x:Value×Nat)=>cs.setIfInBounds (off+x.2) x.1) (pre++mid++post).toArray=(pre++v.cells.toList++post).toArray:=by
 have:=BH off v.cells.toList 0 pre mid post (by simpa using hm) (by simpa using hp)
 rw [←this,←Array.foldl_toList]
 simp [Array.toList_zipIdx]
theorem vA{r:Rp α}{x:α}(h:r.rc S cs x):(r.val cs).cells=cs.toArray:=by
 unfold Rp.val
 cases ha:r.agg with
 |true=>simp [Value.cells]
 |false=>
  have hl:=r.len h
  rw [r.sc ha]at hl
  match cs,hl with
  |[c],_=>
   have:=r.one h c (by simp)
   cases c<;>simp_all [Value.cells,Value.oneCell']
def DB:Nat→List Value→List (Nat×Value)
 |_,[]=>[]
 |k,v::vs=>(k,v)::DB (k+1) vs
theorem FS{α:Type}{r:Rp α}{S:SH}: ∀(ys:List α) (vs:List Value) (k:Nat) (pre zs:List Value),xA S (ys.map (tD r)) vs→pre.length=k*r.sz→zs.length=ys.length*r.sz→
  ∃cs,vf r S cs ys∧Instr.fill (fun i=>some (i*r.sz,r.sz)) (pre++zs).toArray (DB k vs)=some (pre++cs).toArray
 |[],[],k,pre,zs,_,_,hz=>by
  have:zs=[]:=uD (by simpa using hz)
  subst this
  exact⟨[],rfl,by simp [DB,Instr.fill]⟩
 |y::ys,v::vs,k,pre,zs,⟨⟨c,e,hc⟩,h2⟩,hp,hz=>by
  have hl:=r.len hc
  have hz' :r.sz≤zs.length:=by rw [hz,iY,u8];omega
  have e1:zs=zs.take r.sz++zs.drop r.sz:=(wn _ _).symm
  have hcells:v.cells=c.toArray:=by rw [e];exact vA hc
  obtain⟨cs,h3,h4⟩:=FS ys vs (k+1) (pre++c) (zs.drop r.sz) h2 (by rw [jg,hp,hl,u8];omega) (by rw [Ex,hz,iY,u8];omega)
  refine⟨c++cs,⟨c,cs,rfl,hc,h3⟩,?_⟩
  have hs:v.cells.size=r.sz:=by rw [hcells];simpa using hl
  have hcond: ¬((v.cells.size≠r.sz)∨(k*r.sz+v.cells.size>(pre++zs).toArray.size)):=by
   simp [hs];omega
  have h5:=Bj v (k*r.sz) pre (zs.take r.sz) (zs.drop r.sz) (by simp [hs];omega) hp
  rw [jX,←e1]at h5
  simp only [DB,Instr.fill]
  rw [aK (by simpa using hcond)]
  rw [h5,hcells]
  simpa using h4
def Ad:Nat→List Operand→List (Nat×Operand)
 |_,[]=>[]
 |k,v::vs=>(k,v)::Ad (k+1) vs
theorem CK(ρ:Operand→Value): ∀(k:Nat) (xs:List Operand),(Ad k xs).map (fun x=>(x.1,ρ x.2))=DB k (xs.map ρ)
 |_,[]=>rfl
 |k,x::xs=>by simp [Ad,DB,CK ρ (k+1) xs]

variable{parts:List (Nat×Operand)}
section
variable{E:En}{ty:TypeId}
theorem yd{P:Program}{r:Rp α}{xs:List Operand}{ρ:Operand→Value}{t:TypeId}{n sz:Nat}{agg:Bool}(ht:P.underlying t=some (.slice T))(ti:TI P T sz bytes agg z)(hsz:r.sz=sz)(hn:n=ys.length)(hb:Nat.ble (n*sz) 16777216=true)(hx:xA S (ys.map (tD r)) (xs.map ρ))(w:World):
  ∃cs,vf r S cs ys∧(Instr.buildSlice t n ((Ad 0 xs).toArray.map fun x=>(x.1,ρ x.2))).run P w= .ok (.slice (some ⟨w.heap.size,0,none⟩) n n) (w.alloc (.cells cs.toArray T (0,0))):=by
 subst hsz
 have hb' :=pw hb
 obtain⟨zv,hzr,_⟩:=ti.zero w
 obtain⟨cs,hc,hfill⟩:=FS ys (xs.map ρ) 0 [] ((Array.range (n*r.sz)).map (fun i=>(if n*r.sz=0 then #[]else zv.cells)[i%(if n*r.sz=0 then #[]else zv.cells).size]!)).toList hx (by simp) (by simp [hn])
 refine⟨cs,hc,?_⟩
 have hparts:((Ad 0 xs).toArray.map fun x=>(x.1,ρ x.2)).toList=DB 0 (xs.map ρ):=by simp [CK]
 simp only [kz,Array.toArray_toList]at hfill
 have hle: ¬(n*r.sz>2^24):=by omega
 by_cases hn0:n*r.sz=0
 ·simp only [hn0,eg]at hfill
  simp only [Instr.buildSlice,xr,lY ht,zB,ti.sizeOf,Sem.run_ite,hn0,eg,Sem.run_pure,hparts,hfill]
  simp [newRow]
 ·simp only [hn0,d9]at hfill
  simp only [Instr.buildSlice,xr,lY ht,zB,ti.sizeOf,Sem.run_ite,hle,d9,hn0,Sem.run_pure,hzr,hparts,hfill]
  simp [newRow]
theorem aU{r:Rp α}{xs:List Operand}{t:TypeId}{n sz:Nat}{agg:Bool}(ht:E.P.underlying t=some (.slice T))(ti:TI E.P T sz bytes agg z)(hsz:r.sz=sz)(h0:Nat.blt 0 sz=true)(hp:parts=Ad 0 xs)(hn:n=ys.length)(hb:Nat.ble (n*sz) 16777216=true)(hx:jV E.N G xs (ys.map (tD r))):bR E O G ⟨dst,.buildSlice t n parts.toArray,ty,pos,after,g⟩ (tD (gi r) ys):=
 .of_run fun a w S hs _ hf=>by
  obtain⟨cs,hc,hr⟩:=yd ht ti hsz hn hb (hx.tys hf) w
  subst hsz
  have hb' :=pw hb
  have h0' :0<r.sz:=by simpa [xq] using h0
  have hnle:n≤n*r.sz:=Nat.le_mul_of_pos_right n h0'
  obtain⟨he,hs'⟩:=qI (w:=w) (.cells cs.toArray T (0,0)) hs
  have hcl:=pq hc
  refine⟨.slice (some ⟨w.heap.size,0,none⟩) n n,_,_,?_,he,hs',po.2 ⟨_,n,by rw [hn],by omega,by simp only [maxLen];omega,.inr ⟨w.heap.size,0,cs.toArray,T,(0,0),rfl,by simp [SH.set],?_⟩⟩⟩
  ·subst hp
   simp only [execOp,xr,hr,zB,Sem.run_pure]
  ·have:vf r (S.set w.heap.size (.cells cs.toArray T (0,0))) cs ys:=tY he.keep hc
   simpa [←hcl] using this
theorem Nx{r:Rp α}{v:α}(hx:aJ E.N G x (tD r v)):bR E O G ⟨dst,.box T x,ty,pos,after,g⟩ (bM r v):=
 .of_run fun a w S hs _ hf=>by
  obtain⟨cs,hv,hc⟩:=hx S a hf
  obtain⟨he,hs'⟩:=qI (w:=w) (.cells cs.toArray T (0,0)) hs
  refine⟨.pointer (some ⟨w.heap.size,0,none⟩),_,_,?_,he,hs',w.heap.size,0,cs.toArray,T,(0,0),rfl,by simp [SH.set],?_⟩
  ·simp [execOp,Instr.box,newVar,newRow,hv,vA hc]
  ·have:=r.mono he.keep hc
   have hl:=r.len hc
   simpa [←hl] using this
end

def pz(c:Bool)(t:Ty):Ty where
 p:=fun S v=>if c=true then t.p S v else v=undef
 mono:=fun h k=>by
  split
  ·rename_i hc;rw [aY hc]at k;exact t.mono h k
  ·rename_i hc;rw [aK hc]at k;exact k
variable{gs:Nat}{pol:Bool}
section
variable{E:En}
theorem bG{N:Fr}{c:Bool}(h:dn G k=some (pz c t))(hc:c=true):aJ N G (.tmp k) t:=fun _ _ hF=>by
 have h2:if c=true then t.p _ (Act.eval _ (.tmp k))else _=undef:=hF.at_ k _ h
 rw [aY hc]at h2;exact h2
def uS(c b:Bool):Ty:=pz c (tD rB b)
theorem uR(h:dn G k=some (tD rB b)):aJ E.N G (.tmp k) (uS true b):=fun _ _ hF=>by
 have h2:(tD rB b).p _ (Act.eval _ (.tmp k)):=hF.at_ k _ h
 simp only [uS,pz,eg]
 exact h2
theorem zh{c:Bool}(h:dn G k=some (pz c (tD rB b))):aJ E.N G (.tmp k) (uS c b):=fun _ _ hF=>hF.at_ k _ h
theorem EG{c:Bool}(hg:o.guard=some (j,pol))(hj:(ops[j]?).bind (·.dst)=some gs)(hn:gs<a.tmps.size)(hv:(uS c b).p S (a.tmps.getD gs undef)):
  Region.wanted o (yielded ops a.tmps)=(c&&(b==pol)):=by
 have hget:a.tmps[gs]? =some (a.tmps.getD gs undef):=by
  rw [JP,Array.getElem?_eq_getElem hn];rfl
 unfold Region.wanted
 rw [hg]
 simp only [yielded,hj,be,hget]
 cases c with
 |true=>
  have:a.tmps.getD gs undef= .bool b:=i8.1 (by simpa [uS,pz] using hv)
  rw [this]
  cases b<;>cases pol<;>rfl
 |false=>
  have:a.tmps.getD gs undef=undef:=by simpa [uS,pz] using hv
  rw [this]
  cases pol<;>rfl
theorem JF{c:Bool}{op:Op}{ty:TypeId}(hj:(ops[j]?).bind (·.dst)=some gs)(hgs:Nat.blt gs E.N.n=true)(hg:aJ E.N G (.tmp gs) (uS c b))(hd:Nat.blt d E.N.n=true)(h:(c&&(b==pol))=true→bR E O G ⟨some d,op,ty,pos,after,some (j,pol)⟩ t)(k:RG E ops Q rest O ((d,pz (c&&(b==pol)) t)::G)):
  RG E ops Q (⟨some d,op,ty,pos,after,some (j,pol)⟩::rest) O G:=fun a w S st=>by
 have hgs' :gs<a.tmps.size:=by rw [st.facts.size];simpa [xq] using hgs
 have hw:=EG (o:=⟨some d,op,ty,pos,after,some (j,pol)⟩) rfl hj hgs' (hg S a st.facts)
 refine wpListIn_step fun K hK=>?_
 rw [hw]
 by_cases hc:(c&&(b==pol))=true
 ·rw [aY hc]
  refine lq (fun a' w' ⟨v,S',ha,he,hs,hv⟩=>?_) (h hc a w S st.sat st.own st.facts)
  subst ha
  refine hK _ _ (k _ _ _ (st.step he hs hd ?_))
  simpa only [pz,hc,eg] using hv
 ·rw [aK hc]
  refine⟨fun _ _=>trivial,hK _ _ (k _ _ S (st.step (gn.refl _ _ _) st.sat hd ?_))⟩
  show if _ then _ else _
  rw [aK hc]
end

structure Nd where
 slot:Nat
 ty:Ty
 src:Option Nat
def cm(E:En)(O:List OE)(ops:Array Oper)(need:nm)(o:Oper)(t:Ty):Prop:=
 ∀a w S,jL w S→cL E.base E.B w S O→cU E.N S a need→
  if Region.wanted o (yielded ops a.tmps)then KR E.P o a w (fun a' w' => ∃v S',a' =a.put o.dst v∧gn p9 w S w' S' ∧jL w' S' ∧t.p S' v)else t.p S undef
def ki:List Nd→nm
 |[]=>[]
 |n::l=>(n.slot,n.ty)::ki l
def Df(o:Oper)(j:Nat):Bool:=o.after.toList.any fun e=>Nat.beq e.on j&&Region.binds .any e
def qf(l:List Oper)(o:Oper)(i:Nat)(n:Nd):Bool:=
 match n.src with
 |some j=>(match l[j]? with|some p=>(match p.dst with|some d=>Nat.beq d n.slot|none=>false)|none=>false)&&Df o j
 |none=>l.all fun p=>(match p.dst with|some d=> !(Nat.beq d n.slot)|none=>true)||Df p i
def yN(G:nm)(ts:List Ty)(n:Nd):Prop:=
 match n.src with
 |some j=>ts[j]? =some n.ty
 |none=>dn G n.slot=some n.ty
def uz(G:nm)(ts:List Ty):List Nd→Prop
 |[]=>True
 |n::l=>yN G ts n∧uz G ts l
theorem uz.mem: ∀{l:List Nd},uz G ts l→ ∀n∈l,yN G ts n
 |_::_,⟨h,_⟩,_,.head _=>h
 |_::_,⟨_,h⟩,_,.tail _ hm=>uz.mem h _ hm
def WE(o:Oper):Nat:=o.dst.getD 0
def eN(i:Nat)(o:Oper):Bool:=o.after.toList.all fun e=> !(Region.binds .any e)||Nat.blt e.on i
def DR(E:En)(O:List OE)(G:nm)(l:List Oper)(ts:List Ty):Nat→List Oper→Prop
 |_,[]=>True
 |i,o::rest=>(∃(needs:List Nd) (t:Ty),ts[i]? =some t∧uz G ts needs∧(needs.all (qf l o i))=true∧eN i o=true∧cm E O l.toArray (ki needs) o t)∧DR E O G l ts (i+1) rest
def wx(N:Nat):List Nat→List Oper→Bool
 |_,[]=>true
 |seen,o::rest=>(match o.dst with|some d=>Nat.blt d N&& !(seen.any (Nat.beq d))&&wx N (d::seen) rest|none=>false)
def adH(E:En)(O:List OE)(G:nm)(l:List Oper)(ts:List Ty)(i:Nat)(o:Oper):Prop:=
 ∃(needs:List Nd) (t:Ty),ts[i]? =some t∧uz G ts needs∧(needs.all (qf l o i))=true∧eN i o=true∧cm E O l.toArray (ki needs) o t
theorem DR.get{E:En}{l:List Oper}(r:List Oper): ∀(k:Nat),DR E O G l ts k r→ ∀(j:Nat) (o:Oper),r[j]? =some o→adH E O G l ts (k+j) o:=by
 induction r with
 |nil=>intro k _ j o h;simp at h
 |cons p r ih=>
  intro k h j o ho
  cases j with
  |zero=>simp at ho;subst ho;exact h.1
  |succ j=>
   have:=ih (k+1) h.2 j o (by simpa using ho)
   rwa [show k+1+j=k+(j+1)from by omega]at this
theorem xZ{N:Nat}(l:List Oper): ∀(seen:List Nat),wx N seen l=true→
  (∀o:Oper,o∈l→ ∃d,o.dst=some d∧d<N∧d∉seen)∧ ∀(i j:Nat) (o p:Oper),l[i]? =some o→l[j]? =some p→o.dst=p.dst→i=j:=by
 induction l with
 |nil=>exact fun _ _=>⟨fun _ h=>(by cases h),fun _ _ _ _ h=>(by simp at h)⟩
 |cons o l ih=>
  intro seen h
  unfold wx at h
  cases hd:o.dst with
  |none=>rw [hd]at h;cases h
  |some d=>
   rw [hd]at h
   simp only [my,DM]at h
   obtain⟨⟨h1,h2⟩,h3⟩:=h
   have h2' :d∉seen:=fun hm=>by
    rw [JR]at h2
    exact h2 d hm (by simp)
   obtain⟨ih1,ih2⟩:=ih _ h3
   refine⟨fun q hq=>?_,fun i j q p hi hj hdp=>?_⟩
   ·rcases fx.1 hq with rfl|hq
    ·exact⟨d,hd,by simpa [xq] using h1,h2'⟩
    ·obtain⟨d',e1,e2,e3⟩:=ih1 q hq
     exact⟨d',e1,e2,fun hm=>e3 (kN _ hm)⟩
   ·cases i with
    |zero=>
     cases j with
     |zero=>rfl
     |succ j=>
      simp at hi hj
      subst hi
      obtain⟨d',e1,_,e3⟩:=ih1 p (rO hj)
      rw [hd,e1]at hdp
      have e4:d=d' :=by simpa using hdp
      exact absurd (by rw [e4];exact kZ ..) e3
    |succ i=>
     cases j with
     |zero=>
      simp at hi hj
      subst hj
      obtain⟨d',e1,_,e3⟩:=ih1 q (rO hi)
      rw [hd,e1]at hdp
      have e4:d' =d:=by simpa using hdp
      exact absurd (by rw [e4];exact kZ ..) e3
     |succ j=>rw [ih2 i j q p (by simpa using hi) (by simpa using hj) hdp]

structure DJ(E:En)(O:List OE)(G:nm)(l:List Oper)(ts:List Ty)(done:Array Bool)(a:Act)(w:World)(S:SH):Prop where
 ext:gn E.B E.w0 E.S0 w S
 sat:jL w S
 own:cL E.base E.B w S O
 size:a.tmps.size=E.N.n
 defers:a.defers=E.N.ds
 dsz:done.size=l.length
 down: ∀j o,l[j]? =some o→done.getD j false=true→ ∀e∈o.after,Region.binds .any e=true→done.getD e.on false=true
 old: ∀k t,dn G k=some t→(∀j o,l[j]? =some o→done.getD j false=true→o.dst≠some k)→t.p S (a.tmps.getD k undef)
 new: ∀j o d t,l[j]? =some o→done.getD j false=true→o.dst=some d→ts[j]? =some t→t.p S (a.tmps.getD d undef)
variable{done:Array Bool}
theorem DJ.need{E:En}{l:List Oper}(h:DJ E O G l ts done a w S)(hi:l[i]? =some o)(hun:done.getD i true=false)(hwait: ∀e∈o.after,Region.binds .any e=true→done.getD e.on false=true){needs:List Nd}(h1:uz G ts needs)(h2:(needs.all (qf l o i))=true):cU E.N S a (ki needs):=by
 have hlt:i<done.size:=by rw [h.dsz];exact(ke.1 hi).1
 have hun' :done.getD i false=false:=by
  simp [hlt]at hun ⊢;exact hun
 refine⟨h.size,h.defers,?_⟩
 have key: ∀n∈needs,n.ty.p S (a.tmps.getD n.slot undef):=by
  intro n hn
  have hs:=jW.1 h2 n hn
  have ho:=h1.mem n hn
  unfold qf at hs
  unfold yN at ho
  cases hsrc:n.src with
  |some j=>
   rw [hsrc]at hs ho
   simp only [my]at hs
   obtain⟨hs1,hs2⟩:=hs
   cases hj:l[j]? with
   |none=>rw [hj]at hs1;cases hs1
   |some p=>
    rw [hj]at hs1
    cases hd:p.dst with
    |none=>simp only [hd]at hs1;cases hs1
    |some d=>
     simp only [hd]at hs1
     have hd' :=o7 hs1
     subst hd'
     have hdone:done.getD j false=true:=by
      unfold Df at hs2
      obtain⟨e,he0,hb⟩:=uB.1 hs2
      have he:e∈o.after:=by simpa using he0
      simp only [my]at hb
      have:=hwait e he hb.2
      rwa [o7 hb.1]at this
     exact h.new j p n.slot n.ty hj hdone hd ho
  |none=>
   rw [hsrc]at hs ho
   refine h.old _ _ ho fun j p hj hdone hd=>?_
   have:=jW.1 hs p (rO hj)
   simp only [hd,Nat.beq_refl,mL,rM]at this
   unfold Df at this
   obtain⟨e,he0,hb⟩:=uB.1 this
   have he:e∈p.after:=by simpa using he0
   simp only [my]at hb
   have h3:=h.down j p hj hdone e he hb.2
   rw [o7 hb.1]at h3
   rw [h3]at hun'
   cases hun'
 clear h1 h2
 intro k t hk
 induction needs with
 |nil=>simp [ki,dn]at hk
 |cons n needs ih=>
  unfold ki dn at hk
  by_cases hb:Nat.beq n.slot k=true
  ·rw [hb]at hk
   have:=o7 hb
   subst this
   have e:n.ty=t:=by simpa using hk
   rw [←e]
   exact key n (kZ ..)
  ·rw [Al]at hb
   rw [hb]at hk
   exact ih (fun m hm=>key m (kN _ hm)) hk
def No:List Oper→List Ty→nm→nm
 |o::l,t::ts,G=>(WE o,t)::No l ts G
 |_,_,G=>G
theorem Hy(l:List Oper): ∀(ts:List Ty) (k:Nat) (t:Ty),(∀o:Oper,o∈l→o.dst≠none)→ts.length=l.length→dn (No l ts G) k=some t→
  (∃(j:Nat) (o:Oper),l[j]? =some o∧o.dst=some k∧ts[j]? =some t)∨(dn G k=some t∧ ∀o:Oper,o∈l→o.dst≠some k):=by
 induction l with
 |nil=>
  intro ts k t _ hl h
  have:ts=[]:=uD (by simpa using hl)
  subst this
  exact .inr ⟨h,fun _ h=>(by cases h)⟩
 |cons o l ih=>
  intro ts k t hne hl h
  cases ts with
  |nil=>simp at hl
  |cons u ts=>
   unfold No dn at h
   by_cases hb:Nat.beq (WE o) k=true
   ·rw [hb]at h
    have hk:=o7 hb
    refine .inl ⟨0,o,rfl,?_,by simpa using h⟩
    cases hd:o.dst with
    |none=>exact absurd hd (hne o (kZ ..))
    |some d=>simp only [WE,hd,G3]at hk;rw [hk]
   ·rw [Al]at hb
    rw [hb]at h
    rcases ih ts k t (fun p hp=>hne p (kN _ hp)) (by simpa using hl) h with⟨j,p,h1,h2,h3⟩|⟨h1,h2⟩
    ·exact .inl ⟨j+1,p,by simpa using h1,h2,by simpa using h3⟩
    ·refine .inr ⟨h1,fun p hp hd=>?_⟩
     rcases fx.1 hp with rfl|hp
     ·simp [WE,hd]at hb
     ·exact h2 p hp hd
theorem rG(hd:d<a.tmps.size):(a.put (some d) v).tmps.getD k undef=if d=k then v else a.tmps.getD k undef:=by
 by_cases h:d=k
 ·subst h;simp [Act.put,JP,hd]
 ·simp [Act.put,JP,h]
theorem DJ.step{E:En}{l:List Oper}(h:DJ E O G l ts done a w S)(hsl:wx E.N.n [] l=true)(hi:l[i]? =some o)(hwait: ∀e∈o.after,Region.binds .any e=true→done.getD e.on false=true)(ht:ts[i]? =some t)(hun:done.getD i true=false)(hext:gn p9 w S w' S')(hsat:jL w' S')(hv:t.p S' v):DJ E O G l ts (done.setIfInBounds i true) (a.put o.dst v) w' S' :=by
 obtain⟨hs1,hs2⟩:=xZ l [] hsl
 obtain⟨d,hd,hdN,_⟩:=hs1 o (rO hi)
 have hda:d<a.tmps.size:=by rw [h.size];exact hdN
 have hlt:i<done.size:=by rw [h.dsz];exact(ke.1 hi).1
 have hset: ∀j,(done.setIfInBounds i true).getD j false=true→j=i∨done.getD j false=true:=fun j hj=>by
  by_cases hij:i=j
  ·exact .inl hij.symm
  ·rw [vp false hij]at hj;exact .inr hj
 have hseti:(done.setIfInBounds i true).getD i false=true:=by simp [hlt]
 have hun' :done.getD i false=false:=by simp [hlt]at hun ⊢;exact hun
 refine⟨h.ext.step0 hext,hsat,h.own.ext0 hext,?_,?_,by simp [h.dsz],fun j p hj hdone e he hb=>?_,fun k u hk hno=>?_,fun j p d' u hj hdone hd' hu=>?_⟩
 ·rw [hd];simp [Act.put,h.size]
 ·rw [hd];exact h.defers
 ·rcases hset j hdone with rfl|hj'
  ·rw [hi]at hj
   have:o=p:=by simpa using hj
   subst this
   exact wj (hwait e he hb)
  ·exact wj (h.down j p hj hj' e he hb)
 ·have hne:d≠k:=fun e=>hno i o hi hseti (by rw [hd,e])
  rw [hd,rG hda,aK hne]
  exact u.mono hext.keep (h.old k u hk fun j p hj hdone=>hno j p hj (wj hdone))
 ·rw [hd,rG hda]
  rcases hset j hdone with rfl|hj'
  ·rw [hi]at hj
   have:o=p:=by simpa using hj
   subst this
   rw [hd]at hd'
   have:d=d' :=by simpa using hd'
   subst this
   rw [aY rfl]
   rw [ht]at hu
   have:t=u:=by simpa using hu
   subst this
   exact hv
  ·have hne:d≠d' :=fun e=>by
    subst e
    have:=hs2 i j o p hi hj (by rw [hd,hd'])
    subst this
    rw [hj']at hun';cases hun'
   rw [aK hne]
   exact u.mono hext.keep (h.new j p d' u hj hj' hd' hu)
theorem Mb{l:List Oper}{done:Array Bool}(hsz:done.size=l.length)(hedge: ∀i o,l[i]? =some o→eN i o=true)(hr:Region.ready .any l.toArray done=[]): ∀n i,i<n→i<l.length→done.getD i false=true
 |0,i,h,_=>by omega
 |n+1,i,h,hi=>by
  have ih:=Mb hsz hedge hr n
  by_cases hd:done.getD i true=true
  ·have:i<done.size:=by omega
   simp [this]at hd ⊢;exact hd
  ·exfalso
   have hmem:i∈Region.ready .any l.toArray done:=by
    rw [tB]
    refine⟨by simpa using hd,l[i],by simp [hi],fun e he hb=>?_⟩
    have:=hedge i l[i] (by simp [hi])
    unfold eN at this
    have:=jW.1 this e (by simpa using he)
    simp only [hb,mL,rM,xq]at this
    exact ih e.on (by omega) (by omega)
   rw [hr]at hmem
   cases hmem
def lG(done:Array Bool):Nat:=done.toList.countP (· ==false)
theorem qV(h:done.getD i true=false):lG (done.setIfInBounds i true)+1=lG done:=by
 have hlt:i<done.size:=by
  rcases nW i done.size with h' |h'
  ·exact h'
  ·simp [Array.getElem?_eq_none h']at h
 have hv:done[i]=false:=by simpa [hlt] using h
 unfold lG
 rw [Array.toList_setIfInBounds,List.countP_set (by simpa using hlt)]
 have h2:(done.toList[i]'(by simpa using hlt))=false:=by simpa using hv
 have hpos:0<done.toList.countP (· ==false):=List.countP_pos_iff.2 ⟨done.toList[i]'(by simpa using hlt),JQ _,by rw [h2];rfl⟩
 rw [h2,aY (show(false==false)=true from rfl),aK (show¬((true==false)=true) by decide)]
 omega
theorem ME{E:En}{l:List Oper}(hsl:wx E.N.n [] l=true)(hd:DR E O G l ts 0 l)(hQ: ∀done a w S,DJ E O G l ts done a w S→(∀i,i<l.length→done.getD i false=true)→Q .normal a w):
  ∀(fuel:Nat) (done:Array Bool) (a:Act) (w:World) (S:SH),lG done=fuel→DJ E O G l ts done a w S→wpAnyIn (fw E.r) 0 E.P .any l.toArray Q fuel done a w:=by
 have hedge: ∀i o,l[i]? =some o→eN i o=true:=fun i o hi=>by
  obtain⟨_,_,_,_,_,h,_⟩:=DR.get l 0 hd i o hi
  simpa using h
 have fin: ∀done a w S,DJ E O G l ts done a w S→Region.ready .any l.toArray done=[]→Q .normal a w:=fun done a w S h hr=>
  hQ done a w S h fun i hi=>Mb h.dsz hedge hr (i+1) i (by omega) hi
 intro fuel
 induction fuel with
 |zero=>
  intro done a w S hu h
  have hr:Region.ready .any l.toArray done=[]:=by
   cases hr:Region.ready .any l.toArray done with
   |nil=>rfl
   |cons i r=>
    have hm:i∈Region.ready .any l.toArray done:=by rw [hr];exact kZ ..
    have:=qV (tB.1 hm).1
    omega
  exact⟨hr,fin done a w S h hr⟩
 |succ fuel ih=>
  intro done a w S hu h
  refine⟨fin done a w S h,fun i hi=>?_⟩
  obtain⟨hun,o,ho,hwait⟩:=tB.1 hi
  have ho' :l[i]? =some o:=by simpa using ho
  obtain⟨needs,t,h1,h2,h3,_,h5⟩:=DR.get l 0 hd i o ho'
  rw [qS]at h1 h3
  have hF:=h.need ho' hun hwait h2 h3
  have h6:=h5 a w S h.sat h.own hF
  have hu' :lG (done.setIfInBounds i true)=fuel:=by have:=qV hun;omega
  unfold wpOpIn
  rw [ho]
  show if _ then _ else _
  by_cases hw:Region.wanted o (yielded l.toArray a.tmps)=true
  ·rw [aY hw]at h6 ⊢
   refine lq (fun a' w' ⟨v,S',ha,he,hs,hv⟩=>?_) h6
   subst ha
   exact ih _ _ _ S' hu' (h.step hsl ho' hwait h1 hun he hs hv)
  ·rw [aK hw]at h6 ⊢
   exact⟨fun _ _=>trivial,ih _ _ _ S hu' (h.step hsl ho' hwait h1 hun (gn.refl _ _ _) h.sat h6)⟩
section
variable{E:En}
theorem da{id:Nat}{l:List Oper}(hm:E.P.follows .mixedOrders=true)(hsl:wx E.N.n [] l=true)(hlen:ts.length=l.length)(hd:DR E O G l ts 0 l)(k:AT E Q .normal O (No l ts G)):
  CG E Q (.region id l.toArray true) O G:=fun a w S st=>by
 refine wpIn_region_any hm ?_
 obtain⟨he,hs⟩:=yQ (w:=w) st.sat
 refine ME hsl hd (fun done a w S h hall=>k a w S ⟨h.ext,h.sat,h.own,h.size,h.defers,fun j t hj=>?_⟩) _ _ _ _ S ?_
  ⟨st.ext.step0 he,hs,st.own.ext0 he,st.facts.size,st.facts.defers,by simp,fun j o hj hdone=>?_,fun k t hk _=>st.facts.at_ k t hk,fun j o d t hj hdone=>?_⟩
 ·obtain⟨hs1,_⟩:=xZ l [] hsl
  rcases Hy l ts j t (fun o ho e=>by obtain⟨d,hd,_⟩:=hs1 o ho;rw [hd]at e;cases e) hlen hj with⟨i,o,h1,h2,h3⟩|⟨h1,h2⟩
  ·exact h.new i o j t h1 (hall i (ke.1 h1).1) h2 h3
  ·exact h.old j t h1 fun i o ho _=>h2 o (rO ho)
 ·unfold lG;rw [Oz,Ox];simp
 ·simp [An]at hdone
  split at hdone<;>simp at hdone
 ·simp [An]at hdone
  split at hdone<;>simp at hdone
theorem aC{need:nm}(hg:o.guard=none)(h:bR E O need o t):cm E O ops need o t:=fun a w S hs ho hf=>by
 have:Region.wanted o (yielded ops a.tmps)=true:=by unfold Region.wanted;rw [hg]
 rw [this,aY rfl]
 exact h a w S hs ho hf
theorem u7{l:List Oper}{need:nm}{c:Bool}(hg:o.guard=some (j,pol))(hj:((l.toArray)[j]?).bind (·.dst)=some gs)(hgs:Nat.blt gs E.N.n=true)(hb:aJ E.N need (.tmp gs) (uS c b))(h:(c&&(b==pol))=true→bR E O need o t):cm E O l.toArray need o (pz (c&&(b==pol)) t):=fun a w S hs ho hf=>by
 have hw:=EG (ops:=l.toArray) hg hj (by rw [hf.size];simpa [xq] using hgs) (hb S a hf)
 rw [hw]
 by_cases hc:(c&&(b==pol))=true
 ·rw [aY hc]
  refine oR (fun a' w' ⟨v,S',ha,he,hs,hv⟩=>⟨v,S',ha,he,hs,?_⟩) (h hc a w S hs ho hf)
  show if _ then _ else _
  rw [aY hc];exact hv
 ·rw [aK hc]
  show if _ then _ else _
  rw [aK hc]
end
variable{α0:Type}{Gf:α0→nm}{Of:α0→List OE}{α1 α2 α3 α4 α5 α6:Type}
section
variable{E:En}
theorem Rj{id:Nat}{Z:Prop}{Of:List OE}{Gf:nm}(hK:Z→AT E Q .normal (Of) (Gf))(h:(Z→AT E Q .normal (Of) (Gf))→CG E (Exit.inBlock id Q) c O G):CG E Q (.block id c) O G:=ay (h hK)
theorem tz{x y:Code}{Z:Prop}{Of:List OE}{Gf:nm}(hK:Z→CG E Q y (Of) (Gf))
  (h:(Z→AT E (Exit.then (y.wpIn (fw E.r) 0 E.P Q) Q) .normal (Of) (Gf))→CG E (Exit.then (y.wpIn (fw E.r) 0 E.P Q) Q) x O G):CG E Q (.seq x y) O G:=ah (h (fun hz=>hK hz))
theorem PX{Z:Nat→α0→Prop}(h0: ∀x0,Z 0 x0→False)(h: ∀n,(∀x0,Z n x0→LG E Q c (Of x0) (Gf x0))→ ∀x0,Z (n+1) x0→LG E Q c (Of x0) (Gf x0)): ∀n,∀x0,Z n x0→LG E Q c (Of x0) (Gf x0)
 |0=>fun x0 hz=>(h0 x0 hz).elim
 |n+1=>h n (PX h0 h n)
theorem d7{Z:List β→α0→Prop}{Of:List β→α0→List OE}{Gf:List β→α0→nm}(h0: ∀x0,Z [] x0→LG E Q c (Of [] x0) (Gf [] x0))(h: ∀b l,(∀x0,Z l x0→LG E Q c (Of l x0) (Gf l x0))→ ∀x0,Z (b::l) x0→LG E Q c (Of (b::l) x0) (Gf (b::l) x0)): ∀l,∀x0,Z l x0→LG E Q c (Of l x0) (Gf l x0)
 |[]=>h0
 |b::l=>h b l (d7 h0 h l)
theorem H7{id:Nat}{Z:α0→Prop}(hK: ∀x0,Z x0→AT E Q .normal (Of x0) (Gf x0))(h:(∀x0,Z x0→AT E Q .normal (Of x0) (Gf x0))→CG E (Exit.inBlock id Q) c O G):CG E Q (.block id c) O G:=ay (h hK)
theorem kL{x y:Code}{Z:α0→Prop}(hK: ∀x0,Z x0→CG E Q y (Of x0) (Gf x0))(h:(∀x0,Z x0→AT E (Exit.then (y.wpIn (fw E.r) 0 E.P Q) Q) .normal (Of x0) (Gf x0))→CG E (Exit.then (y.wpIn (fw E.r) 0 E.P Q) Q) x O G):CG E Q (.seq x y) O G:=ah (h (fun x0=>fun hz=>hK x0 hz))
theorem nE{Z:List β→α0→α1→Prop}{Of:List β→α0→α1→List OE}{Gf:List β→α0→α1→nm}(h0: ∀x0 x1,Z [] x0 x1→LG E Q c (Of [] x0 x1) (Gf [] x0 x1))(h: ∀b l,(∀x0 x1,Z l x0 x1→LG E Q c (Of l x0 x1) (Gf l x0 x1))→ ∀x0 x1,Z (b::l) x0 x1→LG E Q c (Of (b::l) x0 x1) (Gf (b::l) x0 x1)): ∀l,∀x0 x1,Z l x0 x1→LG E Q c (Of l x0 x1) (Gf l x0 x1)
 |[]=>h0
 |b::l=>h b l (nE h0 h l)
theorem PW{Z:Nat→α0→α1→α2→Prop}{Of:α0→α1→α2→List OE}{Gf:α0→α1→α2→nm}(h0: ∀x0 x1 x2,Z 0 x0 x1 x2→False)(h: ∀n,(∀x0 x1 x2,Z n x0 x1 x2→LG E Q c (Of x0 x1 x2) (Gf x0 x1 x2))→ ∀x0 x1 x2,Z (n+1) x0 x1 x2→LG E Q c (Of x0 x1 x2) (Gf x0 x1 x2)): ∀n,∀x0 x1 x2,Z n x0 x1 x2→LG E Q c (Of x0 x1 x2) (Gf x0 x1 x2)
 |0=>fun x0 x1 x2 hz=>(h0 x0 x1 x2 hz).elim
 |n+1=>h n (PW h0 h n)
theorem wd{Z:List β→α0→α1→α2→Prop}{Of:List β→α0→α1→α2→List OE}{Gf:List β→α0→α1→α2→nm}(h0: ∀x0 x1 x2,Z [] x0 x1 x2→LG E Q c (Of [] x0 x1 x2) (Gf [] x0 x1 x2))(h: ∀b l,(∀x0 x1 x2,Z l x0 x1 x2→LG E Q c (Of l x0 x1 x2) (Gf l x0 x1 x2))→ ∀x0 x1 x2,Z (b::l) x0 x1 x2→LG E Q c (Of (b::l) x0 x1 x2) (Gf (b::l) x0 x1 x2)): ∀l,∀x0 x1 x2,Z l x0 x1 x2→LG E Q c (Of l x0 x1 x2) (Gf l x0 x1 x2)
 |[]=>h0
 |b::l=>h b l (wd h0 h l)
theorem JI{Z:Nat→α0→α1→α2→Prop}{Of:Nat→α0→α1→α2→List OE}{Gf:Nat→α0→α1→α2→nm}(h0: ∀x0 x1 x2,Z 0 x0 x1 x2→LG E Q c (Of 0 x0 x1 x2) (Gf 0 x0 x1 x2))(h: ∀n,(∀x0 x1 x2,Z n x0 x1 x2→LG E Q c (Of n x0 x1 x2) (Gf n x0 x1 x2))→ ∀x0 x1 x2,Z (n+1) x0 x1 x2→LG E Q c (Of (n+1) x0 x1 x2) (Gf (n+1) x0 x1 x2)): ∀n,∀x0 x1 x2,Z n x0 x1 x2→LG E Q c (Of n x0 x1 x2) (Gf n x0 x1 x2)
 |0=>h0
 |n+1=>h n (JI h0 h n)
theorem zw{x y:Code}{Z:α0→α1→α2→Prop}{Of:α0→α1→α2→List OE}{Gf:α0→α1→α2→nm}(hK: ∀x0 x1 x2,Z x0 x1 x2→CG E Q y (Of x0 x1 x2) (Gf x0 x1 x2))(h:(∀x0 x1 x2,Z x0 x1 x2→AT E (Exit.then (y.wpIn (fw E.r) 0 E.P Q) Q) .normal (Of x0 x1 x2) (Gf x0 x1 x2))→CG E (Exit.then (y.wpIn (fw E.r) 0 E.P Q) Q) x O G):CG E Q (.seq x y) O G:=ah (h (fun x0 x1 x2=>fun hz=>hK x0 x1 x2 hz))
theorem PV{Z:Nat→α0→α1→α2→α3→Prop}{Of:α0→α1→α2→α3→List OE}{Gf:α0→α1→α2→α3→nm}(h0: ∀x0 x1 x2 x3,Z 0 x0 x1 x2 x3→False)(h: ∀n,(∀x0 x1 x2 x3,Z n x0 x1 x2 x3→LG E Q c (Of x0 x1 x2 x3) (Gf x0 x1 x2 x3))→ ∀x0 x1 x2 x3,Z (n+1) x0 x1 x2 x3→LG E Q c (Of x0 x1 x2 x3) (Gf x0 x1 x2 x3)): ∀n,∀x0 x1 x2 x3,Z n x0 x1 x2 x3→LG E Q c (Of x0 x1 x2 x3) (Gf x0 x1 x2 x3)
 |0=>fun x0 x1 x2 x3 hz=>(h0 x0 x1 x2 x3 hz).elim
 |n+1=>h n (PV h0 h n)
theorem j8{Z:List β→α0→α1→α2→α3→Prop}{Of:List β→α0→α1→α2→α3→List OE}{Gf:List β→α0→α1→α2→α3→nm}(h0: ∀x0 x1 x2 x3,Z [] x0 x1 x2 x3→LG E Q c (Of [] x0 x1 x2 x3) (Gf [] x0 x1 x2 x3))(h: ∀b l,(∀x0 x1 x2 x3,Z l x0 x1 x2 x3→LG E Q c (Of l x0 x1 x2 x3) (Gf l x0 x1 x2 x3))→ ∀x0 x1 x2 x3,Z (b::l) x0 x1 x2 x3→LG E Q c (Of (b::l) x0 x1 x2 x3) (Gf (b::l) x0 x1 x2 x3)): ∀l,∀x0 x1 x2 x3,Z l x0 x1 x2 x3→LG E Q c (Of l x0 x1 x2 x3) (Gf l x0 x1 x2 x3)
 |[]=>h0
 |b::l=>h b l (j8 h0 h l)
theorem H6{id:Nat}{Z:α0→α1→α2→α3→Prop}{Of:α0→α1→α2→α3→List OE}{Gf:α0→α1→α2→α3→nm}(hK: ∀x0 x1 x2 x3,Z x0 x1 x2 x3→AT E Q .normal (Of x0 x1 x2 x3) (Gf x0 x1 x2 x3))(h:(∀x0 x1 x2 x3,Z x0 x1 x2 x3→AT E Q .normal (Of x0 x1 x2 x3) (Gf x0 x1 x2 x3))→CG E (Exit.inBlock id Q) c O G):CG E Q (.block id c) O G:=ay (h hK)
theorem uA{Z:List β→α0→α1→α2→α3→α4→Prop}{Of:List β→α0→α1→α2→α3→α4→List OE}{Gf:List β→α0→α1→α2→α3→α4→nm}(h0: ∀x0 x1 x2 x3 x4,Z [] x0 x1 x2 x3 x4→LG E Q c (Of [] x0 x1 x2 x3 x4) (Gf [] x0 x1 x2 x3 x4))(h: ∀b l,(∀x0 x1 x2 x3 x4,Z l x0 x1 x2 x3 x4→LG E Q c (Of l x0 x1 x2 x3 x4) (Gf l x0 x1 x2 x3 x4))→ ∀x0 x1 x2 x3 x4,Z (b::l) x0 x1 x2 x3 x4→LG E Q c (Of (b::l) x0 x1 x2 x3 x4) (Gf (b::l) x0 x1 x2 x3 x4)): ∀l,∀x0 x1 x2 x3 x4,Z l x0 x1 x2 x3 x4→LG E Q c (Of l x0 x1 x2 x3 x4) (Gf l x0 x1 x2 x3 x4)
 |[]=>h0
 |b::l=>h b l (uA h0 h l)
theorem yO{Z:List β→α0→α1→α2→α3→α4→α5→Prop}{Of:List β→α0→α1→α2→α3→α4→α5→List OE}{Gf:List β→α0→α1→α2→α3→α4→α5→nm}(h0: ∀x0 x1 x2 x3 x4 x5,Z [] x0 x1 x2 x3 x4 x5→LG E Q c (Of [] x0 x1 x2 x3 x4 x5) (Gf [] x0 x1 x2 x3 x4 x5))(h: ∀b l,(∀x0 x1 x2 x3 x4 x5,Z l x0 x1 x2 x3 x4 x5→LG E Q c (Of l x0 x1 x2 x3 x4 x5) (Gf l x0 x1 x2 x3 x4 x5))→ ∀x0 x1 x2 x3 x4 x5,Z (b::l) x0 x1 x2 x3 x4 x5→LG E Q c (Of (b::l) x0 x1 x2 x3 x4 x5) (Gf (b::l) x0 x1 x2 x3 x4 x5)): ∀l,∀x0 x1 x2 x3 x4 x5,Z l x0 x1 x2 x3 x4 x5→LG E Q c (Of l x0 x1 x2 x3 x4 x5) (Gf l x0 x1 x2 x3 x4 x5)
 |[]=>h0
 |b::l=>h b l (yO h0 h l)
theorem Rh{x y:Code}{Z:α0→α1→α2→α3→α4→α5→Prop}{Of:α0→α1→α2→α3→α4→α5→List OE}{Gf:α0→α1→α2→α3→α4→α5→nm}(hK: ∀x0 x1 x2 x3 x4 x5,Z x0 x1 x2 x3 x4 x5→CG E Q y (Of x0 x1 x2 x3 x4 x5) (Gf x0 x1 x2 x3 x4 x5))(h:(∀x0 x1 x2 x3 x4 x5,Z x0 x1 x2 x3 x4 x5→AT E (Exit.then (y.wpIn (fw E.r) 0 E.P Q) Q) .normal (Of x0 x1 x2 x3 x4 x5) (Gf x0 x1 x2 x3 x4 x5))→CG E (Exit.then (y.wpIn (fw E.r) 0 E.P Q) Q) x O G):CG E Q (.seq x y) O G:=ah (h (fun x0 x1 x2 x3 x4 x5=>fun hz=>hK x0 x1 x2 x3 x4 x5 hz))
theorem Ml{Z:List β→α0→α1→α2→α3→α4→α5→α6→Prop}{Of:List β→α0→α1→α2→α3→α4→α5→α6→List OE}{Gf:List β→α0→α1→α2→α3→α4→α5→α6→nm}(h0: ∀x0 x1 x2 x3 x4 x5 x6,Z [] x0 x1 x2 x3 x4 x5 x6→LG E Q c (Of [] x0 x1 x2 x3 x4 x5 x6) (Gf [] x0 x1 x2 x3 x4 x5 x6))(h: ∀b l,(∀x0 x1 x2 x3 x4 x5 x6,Z l x0 x1 x2 x3 x4 x5 x6→LG E Q c (Of l x0 x1 x2 x3 x4 x5 x6) (Gf l x0 x1 x2 x3 x4 x5 x6))→ ∀x0 x1 x2 x3 x4 x5 x6,Z (b::l) x0 x1 x2 x3 x4 x5 x6→LG E Q c (Of (b::l) x0 x1 x2 x3 x4 x5 x6) (Gf (b::l) x0 x1 x2 x3 x4 x5 x6)): ∀l,∀x0 x1 x2 x3 x4 x5 x6,Z l x0 x1 x2 x3 x4 x5 x6→LG E Q c (Of l x0 x1 x2 x3 x4 x5 x6) (Gf l x0 x1 x2 x3 x4 x5 x6)
 |[]=>h0
 |b::l=>h b l (Ml h0 h l)
theorem Rg{x y:Code}{Z:α0→α1→α2→α3→α4→α5→α6→Prop}{Of:α0→α1→α2→α3→α4→α5→α6→List OE}{Gf:α0→α1→α2→α3→α4→α5→α6→nm}(hK: ∀x0 x1 x2 x3 x4 x5 x6,Z x0 x1 x2 x3 x4 x5 x6→CG E Q y (Of x0 x1 x2 x3 x4 x5 x6) (Gf x0 x1 x2 x3 x4 x5 x6))(h:(∀x0 x1 x2 x3 x4 x5 x6,Z x0 x1 x2 x3 x4 x5 x6→AT E (Exit.then (y.wpIn (fw E.r) 0 E.P Q) Q) .normal (Of x0 x1 x2 x3 x4 x5 x6) (Gf x0 x1 x2 x3 x4 x5 x6))→CG E (Exit.then (y.wpIn (fw E.r) 0 E.P Q) Q) x O G):CG E Q (.seq x y) O G:=ah (h (fun x0 x1 x2 x3 x4 x5 x6=>fun hz=>hK x0 x1 x2 x3 x4 x5 x6 hz))
theorem Mk{α7:Type}{Z:List β→α0→α1→α2→α3→α4→α5→α6→α7→Prop}{Of:List β→α0→α1→α2→α3→α4→α5→α6→α7→List OE}{Gf:List β→α0→α1→α2→α3→α4→α5→α6→α7→nm}(h0: ∀x0 x1 x2 x3 x4 x5 x6 x7,Z [] x0 x1 x2 x3 x4 x5 x6 x7→LG E Q c (Of [] x0 x1 x2 x3 x4 x5 x6 x7) (Gf [] x0 x1 x2 x3 x4 x5 x6 x7))(h: ∀b l,(∀x0 x1 x2 x3 x4 x5 x6 x7,Z l x0 x1 x2 x3 x4 x5 x6 x7→LG E Q c (Of l x0 x1 x2 x3 x4 x5 x6 x7) (Gf l x0 x1 x2 x3 x4 x5 x6 x7))→ ∀x0 x1 x2 x3 x4 x5 x6 x7,Z (b::l) x0 x1 x2 x3 x4 x5 x6 x7→LG E Q c (Of (b::l) x0 x1 x2 x3 x4 x5 x6 x7) (Gf (b::l) x0 x1 x2 x3 x4 x5 x6 x7)): ∀l,∀x0 x1 x2 x3 x4 x5 x6 x7,Z l x0 x1 x2 x3 x4 x5 x6 x7→LG E Q c (Of l x0 x1 x2 x3 x4 x5 x6 x7) (Gf l x0 x1 x2 x3 x4 x5 x6 x7)
 |[]=>h0
 |b::l=>h b l (Mk h0 h l)
end
theorem bs{α:Type _}{β:Type _}{x:Option α}{k:α→Option β}{r:β}(h:x.bind k=some r): ∃y,x=some y∧k y=some r:=by
 cases x with
 |none=>cases h
 |some y=>exact⟨y,rfl,h⟩
theorem ct{β:Type _}{x y:Option β}{r:β}(h:(if b=true then x else y)=some r)(hb:b=true):x=some r:=by rwa [aY hb]at h
theorem cf{β:Type _}{x y:Option β}{r:β}(h:(if b=true then x else y)=some r)(hb:b=false):y=some r:=by rwa [aK (by rw [hb];decide)]at h
theorem so{β:Type _}{x r:β}(h:some x=some r):x=r:=by simpa using h
theorem og [Inhabited α]{x:Option α}{k:α→Option β}{d:Option β}{r:β}(h:(if b=true then x.bind k else d)=some r): ∃y,(b=true→x=some y∧k y=some r)∧(b=false→d=some r):=by
 cases b with
 |true=>obtain⟨y,h1,h2⟩:=bs (ct h rfl);exact⟨y,fun _=>⟨h1,h2⟩,fun e=>(by cases e)⟩
 |false=>exact⟨default,fun e=>(by cases e),fun _=>cf h rfl⟩

def cQ{α β:Type}(p:Rp α)(q:Rp β):Rp (α×β) where
 sz:=p.sz+q.sz
 agg:=true
 rc:=fun S cs x=> ∃a b,cs=a++b∧p.rc S a x.1∧q.rc S b x.2
 mono:=fun h ⟨a,b,e,h1,h2⟩=>⟨a,b,e,p.mono h h1,q.mono h h2⟩
 len:=fun⟨a,b,e,h1,h2⟩=>by rw [e,jg,p.len h1,q.len h2]
 one:=fun⟨a,b,e,h1,h2⟩ c hc=>by
  rw [e]at hc
  rcases zA.1 hc with h|h
  ·exact p.one h1 c h
  ·exact q.one h2 c h
 sc:=fun h=>by cases h
def qk{α β:Type}(p:Rp α)(f:β→α):Rp β where
 sz:=p.sz
 agg:=true
 rc:=fun S cs x=>p.rc S cs (f x)
 mono:=fun h k=>p.mono h k
 len:=fun h=>p.len h
 one:=fun h=>p.one h
 sc:=fun h=>by cases h
theorem dT{p:Rp α}{f:β→α}:qH (qk p f) 0 p f:=fun S cs x h=>by
 have h' :p.rc S cs (f x):=h
 have hl:=p.len h'
 rw [zz,←hl,xQ];exact h'
variable{γ:Type}
theorem gN{p:Rp α}{r:Rp γ}{get:γ→α×β}(h:qH r off (cQ p q) get):qH r off p (fun x=>(get x).1):=fun S cs x k=>by
 obtain⟨a,b,e,h1,h2⟩:=h S cs x k
 have hl:=p.len h1
 have hl2:=q.len h2
 have:(cs.drop off).take p.sz=a:=by
  have e2:=congrArg (List.take p.sz) e
  rw [Ce,xO (by show p.sz≤p.sz+q.sz;omega),←hl,List.take_left]at e2
  rw [←hl];exact e2
 rw [this];exact h1
theorem bh{p:Rp α}{r:Rp γ}{off' :Nat}{get:γ→α×β}(h:qH r off (cQ p q) get)(ho:off' =off+p.sz):qH r off' q (fun x=>(get x).2):=fun S cs x k=>by
 obtain⟨a,b,e,h1,h2⟩:=h S cs x k
 have hl:=p.len h1
 have hl2:=q.len h2
 have:(cs.drop off').take q.sz=b:=by
  have e2:=congrArg (List.drop p.sz) e
  rw [A6,qL,←hl,List.drop_left]at e2
  rw [ho,←hl,←e2]
  congr 1
  show q.sz=p.sz+q.sz-a.length
  omega
 rw [this];exact h2

section
variable{E:En}
theorem WX{op:Op}{ty:TypeId}(hj:(ops[j]?).bind (·.dst)=some gs)(hgs:Nat.blt gs E.N.n=true)(hg:dn G gs=some (tD rB b))(hd:Nat.blt d E.N.n=true)(h:b=true→bR E O G ⟨some d,op,ty,pos,after,some (j,true)⟩ t)(k:RG E ops Q rest O ((d,pz b t)::G)):RG E ops Q (⟨some d,op,ty,pos,after,some (j,true)⟩::rest) O G:=by
 have e:(true&&(b==true))=b:=by cases b<;>rfl
 exact JF hj hgs (uR hg) hd (by rw [e];exact h) (by rw [e];exact k)
theorem WY{op:Op}{ty:TypeId}(hj:(ops[j]?).bind (·.dst)=some gs)(hgs:Nat.blt gs E.N.n=true)(hg:dn G gs=some (tD rB b))(hd:Nat.blt d E.N.n=true)(h:(!b)=true→bR E O G ⟨some d,op,ty,pos,after,some (j,false)⟩ t)(k:RG E ops Q rest O ((d,pz (!b) t)::G)):RG E ops Q (⟨some d,op,ty,pos,after,some (j,false)⟩::rest) O G:=by
 have e:(true&&(b==false))= !b:=by cases b<;>rfl
 exact JF hj hgs (uR hg) hd (by rw [e];exact h) (by rw [e];exact k)
theorem j7{c:Bool}{op:Op}{ty:TypeId}(hj:(ops[j]?).bind (·.dst)=some gs)(hgs:Nat.blt gs E.N.n=true)(hg:dn G gs=some (pz c (tD rB b)))(hd:Nat.blt d E.N.n=true)(h:(c&&b)=true→bR E O G ⟨some d,op,ty,pos,after,some (j,true)⟩ t)(k:RG E ops Q rest O ((d,pz (c&&b) t)::G)):RG E ops Q (⟨some d,op,ty,pos,after,some (j,true)⟩::rest) O G:=by
 have e:(c&&(b==true))=(c&&b):=by cases b<;>rfl
 exact JF hj hgs (zh hg) hd (by rw [e];exact h) (by rw [e];exact k)
theorem wc{c:Bool}{op:Op}{ty:TypeId}(hj:(ops[j]?).bind (·.dst)=some gs)(hgs:Nat.blt gs E.N.n=true)(hg:dn G gs=some (pz c (tD rB b)))(hd:Nat.blt d E.N.n=true)(h:(c&& !b)=true→bR E O G ⟨some d,op,ty,pos,after,some (j,false)⟩ t)(k:RG E ops Q rest O ((d,pz (c&& !b) t)::G)):RG E ops Q (⟨some d,op,ty,pos,after,some (j,false)⟩::rest) O G:=by
 have e:(c&&(b==false))=(c&& !b):=by cases b<;>rfl
 exact JF hj hgs (zh hg) hd (by rw [e];exact h) (by rw [e];exact k)
theorem fm{l:List Oper}{need:nm}(hg:o.guard=some (j,true))(hj:((l.toArray)[j]?).bind (·.dst)=some gs)(hgs:Nat.blt gs E.N.n=true)(hb:dn need gs=some (tD rB b))(h:b=true→bR E O need o t):cm E O l.toArray need o (pz b t):=by
 have e:(true&&(b==true))=b:=by cases b<;>rfl
 have:=u7 (t:=t) hg hj hgs (uR (E:=E) hb) (by rw [e];exact h)
 rwa [e]at this
theorem jN{l:List Oper}{need:nm}(hg:o.guard=some (j,false))(hj:((l.toArray)[j]?).bind (·.dst)=some gs)(hgs:Nat.blt gs E.N.n=true)(hb:dn need gs=some (tD rB b))(h:(!b)=true→bR E O need o t):cm E O l.toArray need o (pz (!b) t):=by
 have e:(true&&(b==false))= !b:=by cases b<;>rfl
 have:=u7 (t:=t) hg hj hgs (uR (E:=E) hb) (by rw [e];exact h)
 rwa [e]at this
theorem lX{l:List Oper}{need:nm}{c:Bool}(hg:o.guard=some (j,true))(hj:((l.toArray)[j]?).bind (·.dst)=some gs)(hgs:Nat.blt gs E.N.n=true)(hb:dn need gs=some (pz c (tD rB b)))(h:(c&&b)=true→bR E O need o t):cm E O l.toArray need o (pz (c&&b) t):=by
 have e:(c&&(b==true))=(c&&b):=by cases b<;>rfl
 have:=u7 (t:=t) hg hj hgs (zh (E:=E) hb) (by rw [e];exact h)
 rwa [e]at this
theorem rK{l:List Oper}{need:nm}{c:Bool}(hg:o.guard=some (j,false))(hj:((l.toArray)[j]?).bind (·.dst)=some gs)(hgs:Nat.blt gs E.N.n=true)(hb:dn need gs=some (pz c (tD rB b)))(h:(c&& !b)=true→bR E O need o t):cm E O l.toArray need o (pz (c&& !b) t):=by
 have e:(c&&(b==false))=(c&& !b):=by cases b<;>rfl
 have:=u7 (t:=t) hg hj hgs (zh (E:=E) hb) (by rw [e];exact h)
 rwa [e]at this
theorem B3{a:Bool}(h:a=true)(k:b=true):(a&&b)=true:=by rw [h,k];rfl
theorem wK{a:Bool}(h:a=false):(!a)=true:=by rw [h];rfl
theorem bw{c:Operand}{x y:Code}(hb:aJ E.N G c (tD rB b))(h:b=true)(hx:CG E Q x O G):CG E Q (.cond c x y) O G:=pu hb (fun _=>hx) (fun e=>by rw [h]at e;cases e)
theorem bz{c:Operand}{x y:Code}(hb:aJ E.N G c (tD rB b))(h:b=false)(hy:CG E Q y O G):CG E Q (.cond c x y) O G:=pu hb (fun e=>by rw [h]at e;cases e) (fun _=>hy)
end
theorem Xn [Inhabited α]{x:Option α}{k:α→Option β}{r:β}(h:b=true→x.bind k=some r): ∃y,b=true→x=some y∧k y=some r:=by
 cases b with
 |true=>obtain⟨y,h1,h2⟩:=bs (h rfl);exact⟨y,fun _=>⟨h1,h2⟩⟩
 |false=>exact⟨default,fun e=>(by cases e)⟩
def nz(n:Int):Option Unit:=if n=0 then none else some ()
theorem UO{n:Int}{u:Unit}(h:nz n=some u):n≠0:=fun e=>by rw [e]at h;cases h

section
variable{E:En}{ty:TypeId}
theorem q7{c:Operand}{q:Bool}(hc:aJ E.N G c (tD rB b))(hx:b=true→aJ E.N G x (tD rB q)):bR E O G ⟨dst,.pick c x (.const (.bool false)),ty,pos,after,g⟩ (tD rB (b&&q)):=by
 refine D9 hc (fun h=>?_) (fun h=>?_)
 ·subst h;exact hx rfl
 ·subst h;exact hB
theorem zb{c:Operand}{q:Bool}(hc:aJ E.N G c (tD rB b))(hx:b=false→aJ E.N G x (tD rB q)):bR E O G ⟨dst,.pick c (.const (.bool true)) x,ty,pos,after,g⟩ (tD rB (b||q)):=by
 refine D9 hc (fun h=>?_) (fun h=>?_)
 ·subst h;exact hB
 ·subst h;exact hx rfl
theorem eT{c:Operand}{q t:Bool}(hc:aJ E.N G c (tD rB b))(hx:b=true→aJ E.N G x (tD rB q))(e1:b=true→some q=some t)(e0:b=false→some false=some t):bR E O G ⟨dst,.pick c x (.const (.bool false)),ty,pos,after,g⟩ (tD rB t):=by
 refine D9 hc (fun h=>?_) (fun h=>?_)
 ·rw [←so (e1 h)];exact hx h
 ·rw [←so (e0 h)];exact hB
theorem gZ{c:Operand}{q t:Bool}(hc:aJ E.N G c (tD rB b))(hx:b=false→aJ E.N G x (tD rB q))(e1:(!b)=true→some q=some t)(e0:(!b)=false→some true=some t):bR E O G ⟨dst,.pick c (.const (.bool true)) x,ty,pos,after,g⟩ (tD rB t):=by
 refine D9 hc (fun h=>?_) (fun h=>?_)
 ·rw [←so (e0 (by rw [h];rfl))];exact hB
 ·rw [←so (e1 (by rw [h];rfl))];exact hx h
theorem Nw(hi:ts[i]? =some t)(hx:aJ E.N G x (tT ts)):bR E O G ⟨dst,.extract x i,ty,pos,after,g⟩ t:=
 .of_pure fun a w S _ _ hf=>by
  obtain⟨vs,h1,h2⟩:=hx S a hf
  obtain⟨v,h3,h4⟩:=h2.at_ i t hi
  exact⟨v,by simp [execOp,h1,Instr.extract,h3],h4⟩
theorem OV{k:IntKind}{n:Int}(hx:aJ E.N G x (tD (rI k) m))(hy:aJ E.N G y (tD (rI k) n)):bR E O G ⟨dst,.call ⟨.builtin .max,#[x,y],ats⟩,ty,pos,after,g⟩ (tD (rI k) (max m n)):=
 .of_pure fun a w S _ _ hf=>by
  have h1:a.eval x= .int k m:=di.1 (hx S a hf)
  have h2:a.eval y= .int k n:=di.1 (hy S a hf)
  refine⟨.int k (if n>m then n else m),by simp [execOp,resolve,invoke,builtin,Builtin.max_,Builtin.max2,h1,h2],di.2 ?_⟩
  congr 1
  rw [Int.max_def]
  split<;>split<;>omega
theorem IX{k:IntKind}{n:Int}(hx:aJ E.N G x (tD (rI k) m))(hy:aJ E.N G y (tD (rI k) n)):bR E O G ⟨dst,.call ⟨.builtin .min,#[x,y],ats⟩,ty,pos,after,g⟩ (tD (rI k) (min m n)):=
 .of_pure fun a w S _ _ hf=>by
  have h1:a.eval x= .int k m:=di.1 (hx S a hf)
  have h2:a.eval y= .int k n:=di.1 (hy S a hf)
  refine⟨.int k (if n<m then n else m),by simp [execOp,resolve,invoke,builtin,Builtin.min_,Builtin.min2,h1,h2],di.2 ?_⟩
  congr 1
  rw [Int.min_def]
  split<;>split<;>omega

def dR(P:Program){α β:Type}(args:α→List Ty)(res:β→Ty)(f:α→Option β):Ty where
 p:=fun S v=> ∃fid cap,v= .func (.func fid) #[] cap∧ak P fid=true∧ ∀x y,f x=some y→ ∀w S' vs,SH.le S S' →jL w S' →xA S' (args x) vs→
  Calls P fid (vs.toArray++cap) w fun e w' => ∃v S'',e= .returned v∧gn p9 w S' w' S'' ∧jL w' S'' ∧(res y).p S'' v
 mono:=fun h ⟨f,cap,e,hc,k⟩=>⟨f,cap,e,hc,fun x y hxy w S' vs hle=>k x y hxy w S' vs (SH.le_trans h hle)⟩
theorem zJ{N:Fr}{P:Program}{f:α→Option β}{fid:FuncId}(hc:ak P fid=true)(hs: ∀x y,f x=some y→aW P fid (args x) (res y)):aJ N G (.func fid) (dR P args res f):=fun S a _=>
 ⟨fid,#[],rfl,hc,fun x y h w S' vs _ hsat hv=>by simpa using hs x y h w S' vs hsat hv⟩
theorem xA.append: ∀{ts us:List Ty} {vs ws:List Value},xA S ts vs→xA S us ws→xA S (ts++us) (vs++ws)
 |[],_,[],_,_,h=>h
 |_::_,_,_::_,_,⟨h1,h2⟩,h=>⟨h1,xA.append h2 h⟩
theorem ig{f:α→Option β}{fid:FuncId}{caps:List Operand}{cts:List Ty}(hc:ak E.P fid=true)(hcap:jV E.N G caps cts)(hs: ∀x y,f x=some y→aW E.P fid (args x++cts) (res y)):bR E O G ⟨dst,.makeFunc (.func fid) #[] caps.toArray,ty,pos,after,g⟩ (dR E.P args res f):=
 .of_pure fun a w S _ _ hf=>by
  refine⟨.func (.func fid) #[] (caps.map a.eval).toArray,by simp [execOp,Instr.makeFunc],fid,_,rfl,hc,fun x y h w' S' vs hle hsat hv=>?_⟩
  have hcv:=(hcap.tys hf).mono hle
  simpa using hs x y h w' S' _ hsat (hv.append hcv)
theorem eU{f:α→Option β}{fo:Operand}{x:α}{y:β}{xs:List Operand}(hfo:aJ E.N G fo (dR E.P args res f))(h:f x=some y)(hx:jV E.N G xs (args x)):
  bR E O G ⟨dst,.call ⟨.value fo,xs.toArray,ats⟩,ty,pos,after,g⟩ (res y):=fun a w S hS _ hF=>by
 obtain⟨fid,cap,e,hc,hs⟩:=hfo S a hF
 have hr:(execOp a.eval ⟨dst,.call ⟨.value fo,xs.toArray,ats⟩,ty,pos,after,g⟩).run E.P w= .ok (.enter fid ((xs.map a.eval).toArray++cap)) w:=by
  simp [execOp,resolve,e,Deferred.ofValue,invoke,ei hc]
 refine⟨fun c h=>(by cases h),?_⟩
 rw [hr]
 exact(hs x y h w S _ (SH.le_refl _) hS (hx.tys hF)).mono fun e w' ⟨v,S',he,h1,h2,h3⟩=>⟨v,he,v,S',rfl,h1,h2,h3⟩
end
theorem aW.of{P:Program}{N:Nat}(hf:P.funcs[f]? =some fn)(hb:fn.body=some c)(hN:fn.ntmps=N)(hn:Nat.ble ts.length N=true)(h: ∀w0 S0,CG ⟨P,⟨N,[]⟩,p9,w0,S0,none⟩ (bodyPost P fn (N3 ⟨P,⟨N,[]⟩,p9,w0,S0,none⟩ t)) c [] (uc 0 ts)):aW P f ts t:=by
 subst hN
 exact JE hf hb (pw hn) h
theorem nn{α:Type _}{r:α}(h:(none:Option α)=some r):False:=by cases h
theorem ud{N:Fr}:aJ N G (.const (.slice none 0 0)) (tV (aT none 0 0)):=fun _ _ _=>rfl
def iN:Nat:=2^64
section
variable{E:En}{ty:TypeId}
theorem Np(l:Option Nat)(cap n:Nat)(h:l=none→n=0): ∃a c,aT l cap n= .slice a n c:=by
 cases l with
 |none=>rw [h rfl];exact⟨none,0,rfl⟩
 |some b=>exact⟨_,cap,rfl⟩
theorem jO{r:Rp α}{n:Nat}{t:TypeId}(ht:E.P.underlying t=some (.slice e))(hm:mB mm r T l cap xs∈O)(hx:aJ E.N G x (tV (aT l cap n)))(hn:n=xs.length:=by rfl):
  bR E O G ⟨dst,.call ⟨.builtin .len,#[x],#[t]⟩,ty,pos,after,g⟩ (tD (rI .i64) (n:Int)):=
 .of_pure fun a w S _ ho hf=>by
  have h1:a.eval x=aT l cap n:=hx S a hf
  have h2:=(ho.mem _ hm).1
  obtain⟨ad,c,h3⟩:=Np l cap n (fun e=>by subst e;obtain⟨_,h4,_⟩:=h2;rw [hn];exact h4.1)
  refine⟨.int .i64 n,?_,di.2 rfl⟩
  simp [execOp,resolve,invoke,builtin,Builtin.len_,lY ht,h1,h3,goInt]
end

structure X2(P:Program){α:Type} [DecidableEq α](t:TypeId)(r:Rp α):Prop where
 guard:P.eqGuardType P.depth t=false
 run: ∀(S:SH) (cs ds:List Value) (x y:α) (d:Nat) (w:World),r.rc S cs x→r.rc S ds y→(Op.equalIn (d+20) t (r.val cs) (r.val ds)).run P w= .ok (decide (x=y)) w
section
variable{E:En}{ty:TypeId}
theorem DA{P:Program}{t:TypeId}(h:P.eqGuardType P.depth t=false){op:BinOp}{x y:Operand}{u v:Array Value}{w:World}:(eqGuard op t x y (.agg u) (.agg v)).run P w= .ok () w:=by
 unfold eqGuard
 cases op<;>first|rfl|simp [h]
theorem sM{r:Rp α}(h:r.agg=true)(cs:List Value):r.val cs= .agg cs.toArray:=by unfold Rp.val;rw [aY h]
theorem Eb [DecidableEq α]{r:Rp α}{m n:α}(he:X2 E.P xt r)(hx:aJ E.N G x (tD r m))(hy:aJ E.N G y (tD r n))(ha:r.agg=true:=by rfl):bR E O G ⟨dst,.binOp .eql xt x y yt,ty,pos,after,g⟩ (tD rB (decide (m=n))):=
 .of_pure fun a w S _ _ hf=>by
  obtain⟨cs,h1,h2⟩:=hx S a hf
  obtain⟨ds,h3,h4⟩:=hy S a hf
  refine⟨.bool (decide (m=n)),?_,i8.2 rfl⟩
  have hr:=he.run S cs ds m n 9980 w h2 h4
  have hg:= @DA E.P xt he.guard .eql x y cs.toArray ds.toArray w
  rw [sM ha,sM ha]at hr
  simp only [execOp,h1,h3,sM ha,xr,hg,zB,binOp,Op.equal,Op.maxDepth]
  rw [show(10000:Nat)=9980+20 from rfl,hr]
  simp
theorem IV [DecidableEq α]{r:Rp α}{m n:α}(he:X2 E.P xt r)(hx:aJ E.N G x (tD r m))(hy:aJ E.N G y (tD r n))(ha:r.agg=true:=by rfl):bR E O G ⟨dst,.binOp .neq xt x y yt,ty,pos,after,g⟩ (tD rB (!decide (m=n))):=
 .of_pure fun a w S _ _ hf=>by
  obtain⟨cs,h1,h2⟩:=hx S a hf
  obtain⟨ds,h3,h4⟩:=hy S a hf
  refine⟨.bool (!decide (m=n)),?_,i8.2 rfl⟩
  have hr:=he.run S cs ds m n 9980 w h2 h4
  have hg:= @DA E.P xt he.guard .neq x y cs.toArray ds.toArray w
  rw [sM ha,sM ha]at hr
  simp only [execOp,h1,h3,sM ha,xr,hg,zB,binOp,Op.equal,Op.maxDepth]
  rw [show(10000:Nat)=9980+20 from rfl,hr]
  simp
end

theorem ql{base:Nat}{B:Nat→Prop}(h:cL base B w S O)(k:gn p9 w S w' S'){e:OE}(he:e.p w' S')(hn: ∀b,e.fp b→w.heap.size≤b)(hb:base≤w.heap.size:=by first|assumption|exact St.base_le (by assumption)):cL base B w' S' (e::O):=
 ⟨⟨he,fun b hb' => .inl (zN hb (hn b hb'))⟩,fun f hf b hb' hfb=>by
  have:=f.here (cL.mem h f hf).1 b hfb
  have:=hn b hb'
  omega,h.ext0 k⟩
def gp(P:Program)(f:FuncId)(ts:List Ty)(mm:Bool){α:Type}(r:Rp α)(T:TypeId)(xs:List α):Prop:=
 ∀w S vs,jL w S→xA S ts vs→Calls P f vs.toArray w fun e w' => ∃l cap S',e= .returned (aT l cap xs.length)∧gn p9 w S w' S' ∧jL w' S' ∧(mB mm r T l cap xs).holds w.heap.size p9 w' S'
theorem M0{r:Rp α}(h:(mB mm r T l cap xs).holds w.heap.size p9 w' S')(he:gn p9 w S w' S')(hs:jL w' S'):
  ∃S'',gn p9 w S w' S'' ∧jL w' S'' ∧(tD (gi r) xs).p S'' (aT l cap xs.length):=by
 have st:St ⟨default,⟨0,[]⟩,p9,w,S,none⟩ [mB mm r T l cap xs] [] ⟨#[],[]⟩ w' S' :=⟨he,hs,⟨h,fun _ hf=>(by cases hf),trivial⟩,⟨rfl,rfl,fun _ _ h=>(by simp [dn]at h)⟩⟩
 obtain⟨S'',h1,h2⟩:=st.settle
 exact⟨S'',h1.ext,h1.sat,h2⟩
theorem gp.spec{P:Program}{r:Rp α}(h:gp P f ts mm r T xs):aW P f ts (tD (gi r) xs):=fun w S vs hs hv=>
 (h w S vs hs hv).mono fun e w' ⟨l,cap,S',he,h1,h2,h3⟩=>by
  obtain⟨S'',h4,h5,h6⟩:=M0 h3 h1 h2
  exact⟨_,S'',he,h4,h5,h6⟩
def aaS(E:En)(mm:Bool){α:Type}(r:Rp α)(T:TypeId)(xs:List α):Ending→World→Prop:=fun e w' => ∃l cap S',e= .returned (aT l cap xs.length)∧gn E.B E.w0 E.S0 w' S' ∧jL w' S' ∧(mB mm r T l cap xs).holds E.w0.heap.size E.B w' S'
theorem gp.of{P:Program}{N:Nat}{r:Rp α}(hf:P.funcs[f]? =some fn)(hb:fn.body=some c)(hN:fn.ntmps=N)(hn:Nat.ble ts.length N=true)(h: ∀w0 S0,CG ⟨P,⟨N,[]⟩,p9,w0,S0,none⟩ (bodyPost P fn (aaS ⟨P,⟨N,[]⟩,p9,w0,S0,none⟩ mm r T xs)) c [] (uc 0 ts)):gp P f ts mm r T xs:=by
 subst hN
 intro w S vs hs hv
 exact jU.1 (Eu (F:=fw none) (n:=0) hf hb trivial (h w S _ w S ⟨gn.refl _ _ _,hs,trivial,m9 hv _ (pw hn)⟩))
section
variable{E:En}
theorem gC{P:Program}{N:Nat}{B:Nat→Prop}{w0:World}{S0:SH}{r:Rp α}{n:Nat}(hr:fn.results= #[.tmp k])(hk:dn G k=some (tV (aT l cap n)))(hn:n=xs.length:=by rfl):
  AT ⟨P,⟨N,[]⟩,B,w0,S0,none⟩ (bodyPost P fn (aaS ⟨P,⟨N,[]⟩,B,w0,S0,none⟩ mm r T xs)) .ret (mB mm r T l cap xs::O) G:=fun a w S st=>by
 subst hn
 have hv:a.tmps.getD k undef=aT l cap xs.length:=st.facts.at_ k _ hk
 exact⟨st.facts.defers,_,np P fn k hr _ _,l,cap,S,by rw [hv],st.ext,st.sat,st.own.1⟩
section
variable{ty:TypeId}
theorem Rb{xs:List Operand}{r:Rp α}{u:Nat→Option Nat→Ty}(hc:ak E.P f=true)(hs:gp E.P f ts mm r T ys)(hx:jV E.N G xs ts)(hd:Nat.blt d E.N.n=true)(hu: ∀l cap w0 S,(mB mm r T l cap ys).p w0 S→(u cap l).p S (aT l cap ys.length))(k: ∀l cap,RG E ops Q rest (mB mm r T l cap ys::O) ((d,u cap l)::G)):
  RG E ops Q (⟨some d,.call ⟨.value (.func f),xs.toArray,ats⟩,ty,pos,after,none⟩::rest) O G:= .of rfl fun a w S st=>by
 have hr:(execOp a.eval ⟨some d,.call ⟨.value (.func f),xs.toArray,ats⟩,ty,pos,after,none⟩).run E.P w= .ok (.enter f (xs.map a.eval).toArray) w:=by
  simp [execOp,resolve,Act.eval,Deferred.ofValue,invoke,ei hc]
 refine⟨fun c h=>(by cases h),?_⟩
 rw [hr]
 refine(hs w S _ st.sat (hx.tys st.facts)).mono fun e w' ⟨l,cap,S',he,h1,h2,h3⟩=>⟨_,he,?_⟩;refine k l cap _ _ S' ⟨st.ext.step0 h1,h2,ql st.own h1 h3.1 (fun b hb=>(h3.2 b hb).resolve_right id) st.base_le,(st.facts.mono h1.keep).put hd (hu l cap w' S' h3.1)⟩
theorem jd{xs:List Operand}{r:Rp α}(hc:ak E.P f=true)(hs:gp E.P f ts false r T ys)(hx:jV E.N G xs ts)(hd:Nat.blt d E.N.n=true)(k: ∀l cap,RG E ops Q rest (fE r T l cap ys::O) ((d,tV (aT l cap ys.length))::G)):
  RG E ops Q (⟨some d,.call ⟨.value (.func f),xs.toArray,ats⟩,ty,pos,after,none⟩::rest) O G:=Rb (u:=fun cap l=>tV (aT l cap ys.length)) hc hs hx hd (fun _ _ _ _ _=>rfl) k
theorem ky{r:Rp α}{xs:List Operand}{t:TypeId}{n sz:Nat}{agg:Bool}(ht:E.P.underlying t=some (.slice T))(ti:TI E.P T sz bytes agg z)(hsz:r.sz=sz)(h0:Nat.blt 0 sz=true)(hp:parts=Ad 0 xs)(hn:n=ys.length)(hb:Nat.ble (n*sz) 16777216=true)(hx:jV E.N G xs (ys.map (tD r)))(hd:Nat.blt d E.N.n=true)(k: ∀l cap,RG E ops Q rest (fE r T l cap ys::O) ((d,tV (aT l cap ys.length))::G)):
  RG E ops Q (⟨some d,.buildSlice t n parts.toArray,ty,pos,after,none⟩::rest) O G:= .of rfl fun a w S st=>by
 obtain⟨cs,hc,hr⟩:=yd ht ti hsz hn hb (hx.tys st.facts) w
 subst hsz
 subst hp
 have hb' :=pw hb
 have h0' :0<r.sz:=by simpa [xq] using h0
 have hnle:n≤n*r.sz:=Nat.le_mul_of_pos_right n h0'
 have hcl:=pq hc
 obtain⟨he,hs',hno⟩:=gk (w:=w) (.cells cs.toArray T (0,0)) st.sat
 have hrun:(execOp a.eval ⟨some d,.buildSlice t n (Ad 0 xs).toArray,ty,pos,after,none⟩).run E.P w= .ok (.value (.slice (some ⟨w.heap.size,0,none⟩) n n)) (w.alloc (.cells cs.toArray T (0,0))):=by
  simp only [execOp,xr,hr,zB,Sem.run_pure]
 refine⟨fun c h=>(by cases h),?_⟩
 rw [hrun]
 refine k (some w.heap.size) n _ _ S ⟨st.ext.step0 he,hs',ql st.own he ⟨cs,⟨cs.toArray,xN w _,by omega,by simp only [maxLen];omega,by simp [hcl,hn],by simp [←hcl]⟩,hc,fun b hb=>by rw [←p5 hb];exact hno⟩ (fun b hb=>A5 (p5 hb)) st.base_le,st.facts.put hd ?_⟩
 ·show _=aT _ _ _
  rw [←hn];rfl
theorem ut{r:Rp α}{t:TypeId}(ht:E.P.underlying t=some (.slice e))(hx:aJ E.N G x (tD (gi r) xs))(hd:Nat.blt d E.N.n=true)(k: ∀b,(b=true→xs=[])→RG E ops Q rest O ((d,tD rB b)::G)):RG E ops Q (⟨some d,.binOp .eql t x (.const (.slice none 0 0)) yt,ty,pos,after,none⟩::rest) O G:= .of rfl fun a w S st=>by
 obtain⟨ad,cap,h1,_,_,h2⟩:=po.1 (hx S a st.facts)
 have hrun:(execOp a.eval ⟨some d,.binOp .eql t x (.const (.slice none 0 0)) yt,ty,pos,after,none⟩).run E.P w= .ok (.value (.bool ad.isNone)) w:=by
  have h3:(Op.equal t (.slice ad xs.length cap) (.slice none 0 0)).run E.P w= .ok ad.isNone w:=Bm fun d=>by
   cases ad<;>simp [Op.equalIn,lY ht]
  have hcn:a.eval (.const (.slice none 0 0))= .slice none 0 0:=rfl
  simp [execOp,h1,hcn,eqGuard,binOp,h3]
 refine⟨fun c h=>(by cases h),?_⟩
 rw [hrun]
 refine k ad.isNone (fun e=>?_) _ _ S (st.step (gn.refl _ _ _) st.sat hd (i8.2 rfl))
 rcases h2 with h2|⟨b,off,c,T,fr,e1,_⟩
 ·exact h2
 ·subst e1;cases e
end
end

def aO(b off:Nat):Value:= .pointer (some ⟨b,off,none⟩)
def bx{α:Type}(r:Rp α)(T:TypeId)(b:Nat)(x:α):OE where
 fp:=fun k=>k=b
 p:=fun w S=>S b=none∧ ∃c,w.heap[b]? =some (.cells c T (0,0))∧r.rc S c.toList x
 here:=by
  intro w S h k hk
  subst hk
  obtain⟨h1,c,h2,_⟩:=h
  exact(wp.1 h2).1
 kept:=by
  intro C w w' S S' h k hC
  obtain⟨h1,c,h2,h3⟩:=h
  have hlt:=(wp.1 h2).1
  exact⟨by rw [k.old b hlt (hC b rfl)];exact h1,c,by rw [k.heap b hlt (hC b rfl)];exact h2,r.mono k.keep h3⟩
def rV:Rp Value where
 sz:=1
 agg:=false
 rc:=fun _ cs v=>cs=[v]∧v.oneCell' =true
 mono:=fun _ h=>h
 len:=fun h=>by rw [h.1];rfl
 one:=fun h c hc=>by rw [h.1]at hc;simp at hc;subst hc;exact h.2
 sc:=fun _=>rfl
theorem wv{u:Value}:(tD rV u).p S v↔v=u∧u.oneCell' =true:=by
 constructor
 ·rintro⟨cs,rfl,h1,h2⟩;subst h1;exact⟨rfl,h2⟩
 ·rintro⟨rfl,h⟩;exact⟨[v],rfl,rfl,h⟩
def ko{α β:Type}(r:Rp α)(off:Nat)(q:Rp β)(set:α→β→α):Prop:= ∀S cs x ds y,r.rc S cs x→q.rc S ds y→r.rc S (cs.take off++ds++cs.drop (off+q.sz)) (set x y)
section
variable{E:En}{e:Exit}
theorem St.settleB{r:Rp α}{b:Nat}{x:α}(h:St E (bx r T b x::O) G a w S)(hk:dn G k=some (tV (aO b 0))): ∃S',St E O ((k,bM r x)::G) a w S' :=by
 obtain⟨⟨hn,cur,h3,h4⟩,_⟩:=h.own.1
 obtain⟨h8,hle,_,_⟩:=Ax h rfl h3 (vL _) hn
 have hv:a.tmps.getD k undef=aO b 0:=h.facts.at_ k _ hk
 refine⟨_,h8.cons ⟨b,0,cur,T,(0,0),hv,by simp [SH.set],?_⟩⟩
 have hl:cur.size=r.sz:=by have:=r.len h4;simpa using this
 have:=r.mono hle h4
 rw [zz,sK (by simp [hl])];exact this
theorem aV{r:Rp α}{b:Nat}{x:α}(k:Nat)(hk:dn G k=some (tV (aO b 0)))(h:RG E ops Q rest O ((k,bM r x)::G)):RG E ops Q rest (bx r T b x::O) G:=
 fun a w _ st=>let⟨S',st'⟩:=st.settleB hk;h a w S' st'
theorem bj{r:Rp α}{b:Nat}{x:α}(k:Nat)(hk:dn G k=some (tV (aO b 0)))(h:AT E Q e O ((k,bM r x)::G)):AT E Q e (bx r T b x::O) G:=
 fun a w _ st=>let⟨S',st'⟩:=st.settleB hk;h a w S' st'
section
variable{ty:TypeId}
theorem aX{r:Rp α}{x:α}{sz:Nat}{agg:Bool}(ti:TI E.P T sz bytes agg z)(hx: ∀S,r.rc S z x)(hd:Nat.blt d E.N.n=true)(k: ∀b,RG E ops Q rest (bx r T b x::O) ((d,tV (aO b 0))::G)):RG E ops Q (⟨some d,.alloc T,ty,pos,after,none⟩::rest) O G:= .of rfl fun a w S st=>by
 obtain⟨zv,hzr,hzc⟩:=ti.zero w
 obtain⟨he,hs',hno⟩:=gk (w:=w) (.cells z.toArray T (0,0)) st.sat
 have hrun:(execOp a.eval ⟨some d,.alloc T,ty,pos,after,none⟩).run E.P w= .ok (.value (aO w.heap.size 0)) (w.alloc (.cells z.toArray T (0,0))):=by
  simp [execOp,Instr.alloc,hzr,newVar,newRow,hzc,aO]
 refine⟨fun c h=>(by cases h),?_⟩
 rw [hrun]
 exact k w.heap.size _ _ S ⟨st.ext.step0 he,hs',ql st.own he ⟨hno,z.toArray,xN w _,by simpa using hx S⟩ (fun b hb=>A5 hb.symm) st.base_le,st.facts.put hd rfl⟩
theorem xd{r:Rp α}{v:α}(hx:aJ E.N G x (tD r v))(hd:Nat.blt d E.N.n=true)(k: ∀b,RG E ops Q rest (bx r T b v::O) ((d,tV (aO b 0))::G)):RG E ops Q (⟨some d,.box T x,ty,pos,after,none⟩::rest) O G:= .of rfl fun a w S st=>by
 obtain⟨cs,hv,hc⟩:=hx S a st.facts
 obtain⟨he,hs',hno⟩:=gk (w:=w) (.cells cs.toArray T (0,0)) st.sat
 have hrun:(execOp a.eval ⟨some d,.box T x,ty,pos,after,none⟩).run E.P w= .ok (.value (aO w.heap.size 0)) (w.alloc (.cells cs.toArray T (0,0))):=by
  simp [execOp,Instr.box,newVar,newRow,hv,vA hc,aO]
 refine⟨fun c h=>(by cases h),?_⟩
 rw [hrun]
 exact k w.heap.size _ _ S ⟨st.ext.step0 he,hs',ql st.own he ⟨hno,cs.toArray,xN w _,by simpa using hc⟩ (fun b hb=>A5 hb.symm) st.base_le,st.facts.put hd rfl⟩
theorem q5{base:Nat}{B:Nat→Prop}{b:Nat}(hs:jL w S)(f f' :OE)(h:cL base B w S (f::O))(hf: ∀k,f.fp k↔k=b)(hf' : ∀k,f'.fp k↔k=b)(hg:w'.os=w.os∧w'.tape=w.tape∧w'.output=w.output∧w'.heap.size=w.heap.size∧w.drawn≤w'.drawn)(ho: ∀k,k≠b→w'.heap[k]? =w.heap[k]?)(hp:f'.p w' S)(hno:S b=none):gn (fun k=>k=b) w S w' S∧jL w' S∧cL base B w' S (f' ::O):=by
 have hext:gn (fun k=>k=b) w S w' S:=⟨hg.1,hg.2.1,hg.2.2.1,hg.2.2.2.2,by omega,fun k _ hk=>ho k hk,SH.le_refl _,fun _ _ _=>rfl⟩
 refine⟨hext,hs.same fun k o hk=>?_,⟨hp,fun k hk=>h.1.2 k ((hf k).2 ((hf' k).1 hk))⟩,fun g hgm k hk=>h.2.1 g hgm k ((hf k).2 ((hf' k).1 hk)),h.2.2.ext hext fun g hgm k hk hkb=>h.2.1 g hgm k ((hf k).2 hkb) hk⟩
 have hne:k≠b:=fun e=>by subst e;rw [hno]at hk;cases hk
 exact ho k hne
theorem ld{P:Program}{q:Rp α}{sz:Nat}{agg:Bool}(ti:TI P U sz bytes agg z)(hsz:q.sz=sz){ds:List Value}{y:α}(hy:q.rc S ds y){b:Nat}{cur:Array Value}(hg:w.heap[b]? =some (.cells cur T (0,0)))(hfit:off+q.sz≤cur.size):
  ∃w',(storeVar U ⟨b,off,none⟩ (q.val ds)).run P w= .ok () w' ∧w'.os=w.os∧w'.tape=w.tape∧w'.output=w.output∧(w'.heap.size=w.heap.size∧w.drawn≤w'.drawn)∧w'.heap[b]? =some (.cells (cur.toList.take off++ds++cur.toList.drop (off+q.sz)).toArray T (0,0))∧ ∀k,k≠b→w'.heap[k]? =w.heap[k]? :=by
 have hl:=q.len hy
 have hst:=run_storeCells_at P b off T ds 0 cur w hg (by omega) (q.one hy)
 simp only [xD]at hst
 refine⟨w.setRow b (cur.toList.take off++ds++cur.toList.drop (off+ds.length)).toArray,?_,rfl,rfl,rfl,⟨?_,dh _⟩,?_,fun k hk=>setRow_other w b k _ hk⟩
 ·generalize (cur.toList.take off++ds++cur.toList.drop (off+ds.length)).toArray=X at hst ⊢
  simp only [storeVar,xr,ti.sizeOf,zB,vA hy,G6,hl,hsz]
  simp only [o8,G5,d9]
  simpa using hst
 ·simp [World.setRow]
 ·rw [setRow_heap w b cur _ T _ hg,←hl]
theorem aq{r:Rp α}{set:α→β→α}{x:α}{y:β}{b sz:Nat}{agg:Bool}{p v:Operand}(ti:TI E.P U sz bytes agg z)(hsz:q.sz=sz)(hset:ko r off q set)(hoff:Nat.ble (off+q.sz) r.sz=true)(hp:aJ E.N G p (tV (aO b off)))(hv:aJ E.N G v (tD q y))(k:RG E ops Q rest (bx r T b (set x y)::O) G):RG E ops Q (⟨none,.store U p v,ty,pos,after,none⟩::rest) (bx r T b x::O) G:= .of rfl fun a w S st=>by
 have h1:a.eval p=aO b off:=hp S a st.facts
 obtain⟨ds,h2,h3⟩:=hv S a st.facts
 obtain⟨⟨hno,cur,h5,h6⟩,_⟩:=st.own.1
 have hl:=r.len h6
 have hoff' :=pw hoff
 obtain⟨w',hr,e1,e2,e3,e4,e5,e6⟩:=ld ti hsz h3 h5 (off:=off) (by simp at hl;omega)
 have hrun:(execOp a.eval ⟨none,.store U p v,ty,pos,after,none⟩).run E.P w= .ok .skip w' :=by
  simp [execOp,h1,h2,Instr.storeAt,aO,Instr.sureAddr,hr]
 refine⟨fun c h=>(by cases h),?_⟩
 rw [hrun]
 obtain⟨g1,g2,g3⟩:=q5 (O:=O) st.sat (bx r T b x) (bx r T b (set x y)) st.own (fun _=>Iff.rfl) (fun _=>Iff.rfl) ⟨e1,e2,e3,e4.1,e4.2⟩ e6 ⟨hno,_,e5,by simpa using hset S _ _ _ _ h6 h3⟩ hno
 exact k _ _ S ⟨st.ext.step g1 (fun c hc=>st.own.1.2 c hc),g2,g3,st.facts⟩
theorem an{r:Rp α}:ko r 0 r (fun _ y=>y):=fun S cs x ds y h1 h2=>by
 have hl:=r.len h1
 simpa [←hl] using h2
end
section
variable{ty:TypeId}
theorem GM{sz b o:Nat}{p:Operand}(hf:cV E.P T i=some (off,sz))(h0:Nat.beq sz 0=false)(hp:aJ E.N G p (tV (aO b o))):bR E O G ⟨dst,.fieldAddr T p i,ty,pos,after,g⟩ (tV (aO b (o+off))):=
 .of_pure fun a w S _ _ hF=>by
  have h1:a.eval p=aO b o:=hp S a hF
  obtain⟨fs,f,e1,e2,e3,e4⟩:=Cq hf
  have h0' :sz≠0:=fun e=>by subst e;simp at h0
  refine⟨aO b (o+off),?_,rfl⟩
  simp [execOp,h1,aO,Instr.fieldAt,lY e1,e2,Instr.sureAddr,fieldPlace,e4,h0',e3,j6]
theorem ce{r:Rp α}{get:α→β}{x:α}{b sz:Nat}{agg:Bool}{p:Operand}(ti:TI E.P U sz bytes agg z)(hsz:q.sz=sz)(hag:q.agg=agg)(hget:qH r off q get)(hm:bx r T b x∈O)(hp:aJ E.N G p (tV (aO b off))):
  bR E O G ⟨dst,.load U p,ty,pos,after,g⟩ (tD q (get x)):=
 .of_pure fun a w S _ ho hf=>by
  have h1:a.eval p=aO b off:=hp S a hf
  obtain⟨⟨_,cur,h5,h6⟩,_⟩:=ho.mem _ hm
  have h7:=hget S _ _ h6
  refine⟨_,?_,_,rfl,h7⟩
  simp [execOp,h1,aO,Instr.loadAt,Instr.sureAddr,me ti h5 hsz hag h7]
theorem bU{r:Rp α}:qH r 0 r (fun x=>x):=fun S cs x h=>by
 have hl:=r.len h
 simpa [←hl] using h
end
end

theorem fQ{p:Rp α}:ko (cQ p q) 0 p (fun x y=>(y,x.2)):=fun S cs x ds y h k=>by
 obtain⟨a,b,e,h1,h2⟩:=h
 have hl:=p.len h1
 refine⟨ds,b,?_,k,h2⟩
 rw [e,←hl];simp
theorem bm{p:Rp α}{s:Rp γ}{off' :Nat}{u:β→γ→β}(h:ko q off s u)(ho:off' =p.sz+off):ko (cQ p q) off' s (fun x y=>(x.1,u x.2 y)):=fun S cs x ds y hx hy=>by
 obtain⟨a,b,e,h1,h2⟩:=hx
 have hl:=p.len h1
 refine⟨a,b.take off++ds++b.drop (off+s.sz),?_,h1,h S b x.2 ds y h2 hy⟩
 rw [e,ho,←hl,List.take_length_add_append,show a.length+off+s.sz=a.length+(off+s.sz)from by omega,List.drop_length_add_append]
 simp
theorem dA{p:Rp α}{q:Rp γ}{u:α→γ→α}{f:β→α}{set:β→γ→β}(h:ko p off q u)(hf: ∀x y,f (set x y)=u (f x) y):ko (qk p f) off q set:=fun S cs x ds y hx hy=>by
 show p.rc S _ (f (set x y))
 rw [hf]
 exact h S cs (f x) ds y hx hy
def nw(P:Program)(T:TypeId):Option (List (Nat×Nat)):=
 match P.underlying T with
 |some (.struct fs)=>fs.toList.mapM fun f=>(P.info? f.type).map fun q=>(f.offset,q.size)
 |_=>none
theorem EZ{P:Program}: ∀(fs:List Field) (ps:List (Nat×Nat)) (w:World),fs.mapM (fun f=>(P.info? f.type).map fun q=>(f.offset,q.size))=some ps→
  (fs.mapM (fun f=>do pure (f.offset,←sizeOf f.type):Field→Sem (Nat×Nat))).run P w= .ok ps w
 |[],ps,w,h=>by
  simp at h;subst h
  simp
 |f::fs,ps,w,h=>by
  simp only [List.mapM_cons]at h ⊢
  cases hq:P.info? f.type with
  |none=>simp [hq]at h
  |some q=>
   cases hr:fs.mapM (fun f=>(P.info? f.type).map fun q=>(f.offset,q.size))with
   |none=>simp [hq,hr]at h
   |some qs=>
    simp [hq,hr]at h
    subst h
    have ih:=EZ fs qs w hr
    simp [sizeOf,typeInfo,hq]at ih ⊢
    simp [ih]
section
variable{E:En}{ty:TypeId}
def BP(E:En)(G:nm){α:Type}(r:Rp α)(ps:List (Nat×Nat)):α→List (Nat×Operand)→α→Prop
 |x,[],y=>x=y
 |x,(i,o)::rest,y=> ∃(β:Type) (q:Rp β) (set:α→β→α) (off:Nat) (v:β),ps[i]? =some (off,q.sz)∧ko r off q set∧Nat.ble (off+q.sz) r.sz=true∧aJ E.N G o (tD q v)∧BP E G r ps (set x v) rest y
theorem FR{α:Type}{r:Rp α}{ps:List (Nat×Nat)}{S:SH}{a:Act}(hF:cU E.N S a G): ∀(parts:List (Nat×Operand)) (x y:α) (cs:List Value),BP E G r ps x parts y→r.rc S cs x→
  ∃ds,r.rc S ds y∧Instr.fill (ps.toArray[·]?) cs.toArray (parts.map fun p=>(p.1,a.eval p.2))=some ds.toArray
 |[],x,y,cs,h,hx=>by
  have e:x=y:=h
  subst e
  exact⟨cs,hx,rfl⟩
 |(i,o)::rest,x,y,cs,⟨β,q,set,off,v,h1,h2,h3,h4,h5⟩,hx=>by
  obtain⟨c,hv,hc⟩:=h4 S a hF
  have hl:=q.len hc
  have hlr:=r.len hx
  have h3' :=pw h3
  have hcells:(a.eval o).cells=c.toArray:=by rw [hv];exact vA hc
  obtain⟨ds,h6,h7⟩:=FR hF rest _ y _ h5 (h2 S cs x c v hx hc)
  refine⟨ds,h6,?_⟩
  have hps:ps.toArray[i]? =some (off,q.sz):=by simpa using h1
  have hs:(a.eval o).cells.size=q.sz:=by rw [hcells];simpa using hl
  have h8:=Bj (a.eval o) off (cs.take off) ((cs.drop off).take q.sz) (cs.drop (off+q.sz)) (by rw [hs];simp;omega) (by simp;omega)
  have e1:cs.take off++(cs.drop off).take q.sz++cs.drop (off+q.sz)=cs:=by
   rw [jX,←qL,wn,wn]
  rw [e1]at h8
  simp only [vt,Instr.fill,hps]
  rw [aK (by simp [hs,hlr];omega),h8,hcells]
  simpa using h7
theorem bY{r:Rp α}{x y:α}{ps:List (Nat×Nat)}{sz:Nat}{agg:Bool}(ti:TI E.P T sz bytes agg z)(hp:nw E.P T=some ps)(hz: ∀S,r.rc S z x)(hb:BP E G r ps x parts y)(ha:r.agg=true:=by rfl):
  bR E O G ⟨dst,.build T parts.toArray,ty,pos,after,g⟩ (tD r y):=
 .of_pure fun a w S _ _ hF=>by
  obtain⟨zv,hzr,hzc⟩:=ti.zero w
  obtain⟨ds,h1,h2⟩:=FR hF parts x y z hb (hz S)
  unfold nw at hp
  split at hp
  ·rename_i fs hu
   have hpl:=EZ fs.toList ps w hp
   have hpl2:(fs.mapM (fun f=>do pure (f.offset,←sizeOf f.type):Field→Sem (Nat×Nat))).run E.P w= .ok ps.toArray w:=by
    have hfs:fs=fs.toList.toArray:=by simp
    generalize fs.toList=l at hfs hpl
    subst hfs
    rw [List.mapM_toArray,Sem.run_map,hpl]
    rfl
   refine⟨.agg ds.toArray,?_,ds,(sM ha ds).symm,h1⟩
   simp only [execOp,Instr.build,xr,hzr,zB,lY hu,hpl2,hzc]
   have hm:(parts.toArray.map fun(i,x)=>(i,a.eval x)).toList=parts.map fun p=>(p.1,a.eval p.2):=by simp
   rw [hm,h2]
   simp
  ·cases hp
end
section
theorem je{P:Program}{N:Nat}{B:Nat→Prop}{w0:World}{S0:SH}{r:Rp α}{x:α}{sz:Nat}{agg:Bool}(hr:fn.results= #[.cell k T])(ti:TI P T sz bytes agg z)(hsz:r.sz=sz)(hag:r.agg=agg)(hk:dn G k=some (bM r x)):
  AT ⟨P,⟨N,[]⟩,B,w0,S0,none⟩ (bodyPost P fn (N3 ⟨P,⟨N,[]⟩,B,w0,S0,none⟩ (tD r x))) .ret O G:=fun a w S st=>by
 obtain⟨b,off,c,U,fr,h1,h2,h3⟩:=st.facts.at_ k _ hk
 obtain⟨c',h4,h5⟩:=st.sat.part h2 (r.len h3)
 rw [←h5]at h3
 refine⟨st.facts.defers,r.val ((c'.toList.drop off).take r.sz),?_,_,S,rfl,st.ext,st.sat,_,rfl,h3⟩
 have hl:=me ti h4 hsz hag h3
 have h1' :a.tmps[k]?.getD undef=Value.pointer (some ⟨b,off,none⟩):=by simpa [JP] using h1
 simp [results,hr,h1',asAddr,hl]
end
end Go.Proofs.YtfhhakidodmdfaaGreatDoor

