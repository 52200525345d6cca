/- eJ of this claim: W1, W49, W2, W3, W4, W5, W6, W7, W8, W9, W10, W11, W12, W13, W14, W16. -/
import Derived.WalkKit
import Derived.Orders
import Derived.Lone
import Derived.RunT
import Derived.Calls
import Derived.RangeFuncIn
import Derived.TacticsIn
import Derived.OrdersIn
import Derived.LoopIn
import Derived.Laws.AppendOwn
import Derived.Deep.Upon
import Derived.Lib.AppendStr
import Derived.IntWalk
set_option linter.all false
-- TABI
namespace Go.Proofs.YtpgjgkdpeagjbaaGreatDoor
open Go
def bt:= @Option.bind_some
def aS:= @if_neg
def br:= @if_pos
def lT:= @List.mem_cons_of_mem
def j9:= @decide_eq_true_eq
def p5:= @List.getElem?_eq_getElem
def mp:= @List.mem_cons_self
def iq:= @Bool.false_eq_true
def gN:= @Bool.and_eq_true
def io:= @List.length_cons
def ju:= @List.length_append
def fa:= @Nat.le_refl
def ji:= @List.append_assoc
def gW:= @List.mem_cons
def pP:= @List.getElem?_eq_some_iff
def lU:= @List.nil_append
def fU:= @if_false
def vZ:= @List.eq_nil_of_length_eq_zero
def rL:= @Nat.le_of_ble_eq_true
def uA:= @List.drop_eq_getElem_cons
def p8:= @Bool.eq_false_iff
def nc:= @run_underlying
def oo:= @List.length_nil
def p7:= @List.all_eq_true
def gx:= @if_true
def lG:= @Nat.zero_le
def u0:= @List.take_of_length_le
def xw:= @List.getElem?_append_right
def vl:= @List.length_singleton
def yL:= @Array.getElem?_eq_some_iff
def qb:= @List.drop_drop
def p6:= @Bool.not_true
def sI:= @Option.some.inj
def wQ:= @Nat.eq_of_beq_eq_true
def xQ:= @List.take_append_drop
def yK:= @Option.map_eq_some_iff
def tB:= @Bool.or_eq_true
def tA:= @List.append_nil
def Ae:= @List.drop_eq_nil_of_le
def wP:= @IntKind.wrap_u64
def Gc:= @List.take_append_of_le_length
def zU:= @List.getElem?_drop
def BK:= @List.mem_of_getElem?
def BJ:= @Nat.mul_le_mul_right
def xN:= @IntKind.wrap_i64
def Cv:= @List.singleton_append
def EG:= @List.getElem?_take_of_lt
def uy:= @Nat.lt_or_ge
def zS:= @Result.andThen_ok
def Ad:= @Nat.lt_of_lt_of_le
def Ld:= @List.take_succ_eq_append_getElem
def zR:= @List.any_eq_true
def BI:= @List.pairwise_cons
def EF:= @List.drop_of_length_le
def yI:= @decide_eq_false
def xM:= @List.drop_zero
def xr:= @Bool.true_and
def Ac:= @List.cons_append
def BH:= @Int.toNat_natCast
def ux:= @bne_iff_ne
def xL:= @Bool.false_or
def zQ:= @decide_eq_true
def zP:= @Nat.mul_le_mul
def uZ:= @beq_iff_eq
def wO:= @Nat.add_mul
def xK:= @Sem.run_bind
def BG:= @List.mem_append
def EE:= @List.mem_singleton
def Je:= @List.getElem?_cons_zero
def Jd:= @decide_eq_false_iff_not
def Lc:= @List.getElem?_append_left
def Dg:= @List.take_length
def BF:= @List.take_take
def Nb:= @Array.getD_eq_getD_getElem?
def Df:= @Nat.min_eq_left
def De:= @Bool.eq_iff_iff
def yH:= @Prod.mk.inj
def BE:= @List.all_cons
def Ab:= @Nat.zero_add
def Jc:= @List.drop_eq_nil_iff
def Dd:= @Bool.not_false
def Gb:= @Bool.not_eq_true
def vg:= @Nat.add_zero
def Ai:= @Bool.not_eq_true'
def wU:= @List.any_cons
def v6:= @Nat.sub_self
def FE:= @Nat.div_div_eq_div_mul
def Ah:= @Nat.lt_succ_self
def JP:= @List.drop_append_of_le_length
def B5:= @bne_self_eq_false
def xU:= @List.map_cons
def zD:= @List.drop_take
def FD:= @List.length_replicate
def Ag:= @Int.natCast_mul
def GX:= @Int.eq_ofNat_of_zero_le
def Fz:= @Bool.and_eq_true_iff
def B4:= @List.length_take
def xT:= @List.mem_map
def Af:= @heap_alloc_new
def Dm:= @Option.some.injEq
def B3:= @List.length_map
def GW:= @List.getElem?_eq_none
def Dk:= @List.getElem_mem
def wT:= @Nat.blt_eq
def Fy:= @not_false_eq_true
def Dj:= @Int.natCast_add
def GV:= @Array.length_toList
def B2:= @Bool.and_true
def xS:= @Nat.mod_lt
def B0:= @List.cons.inj
def Fx:= @beq_self_eq_true
def Fw:= @Nat.mod_eq_of_lt
def Nj:= @Array.getElem?_replicate
def JO:= @List.mem_append_left
def BZ:= @Nat.le_trans
def JN:= @List.getElem?_set_ne
def GU:= @List.getElem?_map
def GT:= @List.flatMap_cons
def JM:= @List.map_congr_left
def GR:= @List.length_drop
def Ni:= @List.dropWhile_sublist
def Di:= @Nat.le_of_eq
def Nh:= @List.contains_iff_mem
def JL:= @List.size_toArray
def Ng:= @of_decide_eq_true
def Dh:= @decide_true
def GQ:= @Bool.false_and
def Fv:= @decide_eq_decide
def JK:= @List.filter_cons
def Fu:= @Nat.succ_mul
def JJ:= @Option.getD_some
def JI:= @List.not_mem_nil
def sJ:= @ne_eq
def Rh:= @List.getElem?_cons_succ
def GP:= @callsIn_of_wp
def xR:= @Iff.rfl
def JH:= @List.length_set
def JG:= @List.mem_filter
def JF:= @List.any_append
def Rg:= @List.filter_eq_nil_iff
def Rf:= @MapKept.run_getObj_map
def Nf:= @List.ext_getElem?
def Nc:= @not_true_eq_false
def JE:= @Bool.and_assoc
def Re:= @List.length_filter_le
def Rd:= @UInt8.lt_iff_toNat_lt
def Rc:= @MapKept.run_checkKey

def Od:Obj->Obj->Prop
 | .cells c E fr,o' => ∃d:List Value,o' = .cells (c.toList++d).toArray E fr
 |o,o' =>o' =o
variable{o:Oper}
def yi(o:Obj):Od o o:=by
 cases o<;>first|rfl|exact⟨[],by simp⟩
variable{c:Code}{cells:List Value}{d:Nat}{fr:Nat×Nat}{k:Nat}{o' :Obj}
def Kj{o o'' :Obj}(h:Od o o')(k:Od o' o''):Od o o'' :=by
 cases o with
 |cells c E fr=>
  obtain⟨d,rfl⟩:=h
  obtain⟨d',rfl⟩:=k
  exact⟨d++d',by simp⟩
 |_=>cases h;exact k
variable{off:Nat}
def HS{c:Array Value}{E:TypeId}(h:Od (.cells c E fr) o'){n:Nat}(hl:((c.toList.drop off).take n).length=n):
  ∃c',o' = .cells c' E fr/\(c'.toList.drop off).take n=(c.toList.drop off).take n:=by
 obtain⟨d,rfl⟩:=h
 refine⟨_,rfl,?_⟩
 by_cases hn:n=0
 ·subst hn;simp
 simp only [B4,GR]at hl
 rw [JP (by omega),Gc (by simp only [GR];omega)]
abbrev SH:=Nat->Option Obj
def SH.le(S S' :SH):Prop:= ∀b o,S b=some o-> ∃o',S' b=some o' /\Od o o'
variable{S:SH}
def SH.le_refl(S:SH):SH.le S S:=fun _ o h=>⟨o,h,yi o⟩
variable{S' S'' :SH}{b:Bool}{e:TypeId}
def SH.le_trans(h:SH.le S S')(k:SH.le S' S''):SH.le S S'' :=fun b o e=>let⟨o',I,K⟩:=h b o e;let⟨o'',h3,h4⟩:=k b o' I;⟨o'',h3,Kj K h4⟩
structure Ty where
 p:SH->Value->Prop
 mono: ∀{S S' :SH} {v:Value},SH.le S S' ->p S v->p S' v

structure Rp(α:Type) where
 sz:Nat
 agg:Bool
 rc:SH->List Value->α->Prop
 mono: ∀{S S' :SH} {cs:List Value} {x:α},SH.le S S' ->rc S cs x->rc S' cs x
 len: ∀{S:SH} {cs:List Value} {x:α},rc S cs x->cs.length=sz
 one: ∀{S:SH} {cs:List Value} {x:α},rc S cs x-> ∀c∈cs,c.oneCell' =true
 sc:agg=false->sz=1

def Rp.val{α:Type}(r:Rp α)(cs:List Value):Value:=if r.agg then .agg cs.toArray else cs.headD undef

def tD{α:Type}(r:Rp α)(x:α):Ty where
 p:=fun S v=> ∃cs,v=r.val cs/\r.rc S cs x
 mono:=fun h ⟨cs,e,k⟩=>⟨cs,e,r.mono h k⟩

def Ap:Ty where
 p:=fun _ _=>True
 mono:=fun _ _=>trivial

def tV(u:Value):Ty where
 p:=fun _ v=>v=u
 mono:=fun _ h=>h

def rI(k:IntKind):Rp Int where
 sz:=1
 agg:=false
 rc:=fun _ cs x=>cs=[.int k x]
 mono:=fun _ h=>h
 len:=fun h=>by rw [h];rfl
 one:=fun h c hc=>by subst h;simp at hc;subst hc;rfl
 sc:=fun _=>rfl

def rB:Rp Bool where
 sz:=1
 agg:=false
 rc:=fun _ cs x=>cs=[.bool x]
 mono:=fun _ h=>h
 len:=fun h=>by rw [h];rfl
 one:=fun h c hc=>by subst h;simp at hc;subst hc;rfl
 sc:=fun _=>rfl

abbrev C0:=List UInt8
def rS:Rp C0 where
 sz:=1
 agg:=false
 rc:=fun _ cs x=>cs=[.string ⟨x.toArray⟩]
 mono:=fun _ h=>h
 len:=fun h=>by rw [h];rfl
 one:=fun h c hc=>by subst h;simp at hc;subst hc;rfl
 sc:=fun _=>rfl

variable{cs:List Value}{v:Value}
def dL{k:IntKind}{n:Int}:(tD (rI k) n).p S v↔v= .int k n:=by
 constructor
 ·rintro⟨cs,rfl,h⟩;have h' :cs=[.int k n]:=h;subst h';rfl
 ·rintro rfl;exact⟨[.int k n],rfl,rfl⟩
def ko:(tD rB b).p S v↔v= .bool b:=by
 constructor
 ·rintro⟨cs,rfl,h⟩;have h' :cs=[.bool b]:=h;subst h';rfl
 ·rintro rfl;exact⟨[.bool b],rfl,rfl⟩
variable{s:C0}
def CA:(tD rS s).p S v↔v= .string ⟨s.toArray⟩:=by
 constructor
 ·rintro⟨cs,rfl,h⟩;have h' :cs=[.string ⟨s.toArray⟩]:=h;subst h';rfl
 ·rintro rfl;exact⟨[.string ⟨s.toArray⟩],rfl,rfl⟩

def xE{α:Type}(r:Rp α)(S:SH):List Value->List α->Prop
 |cs,[]=>cs=[]
 |cs,x::xs=> ∃a b,cs=a++b/\r.rc S a x/\xE r S b xs
variable{a:Act}{α:Type}{xs:List α}
def wp{α:Type}{r:Rp α}{S S' :SH}(h:SH.le S S'): ∀{xs:List α} {cs:List Value},xE r S cs xs->xE r S' cs xs
 |[],_,k=>k
 |_::_,_,⟨a,b,e,I,K⟩=>⟨a,b,e,r.mono h I,wp h K⟩
variable{x:Operand}
def rD{α:Type}{r:Rp α}{S:SH}: ∀{xs:List α} {cs:List Value},xE r S cs xs->cs.length=xs.length*r.sz
 |[],_,k=>by rw [show _=_ from k];simp
 |x::xs,_,⟨a,b,e,I,K⟩=>by rw [e,ju,r.len I,rD K,io,wO];omega
def Gu{α:Type}{r:Rp α}{S:SH}: ∀{xs:List α} {cs:List Value},xE r S cs xs-> ∀c∈cs,c.oneCell' =true
 |[],_,k,c,hc=>by rw [show _=_ from k]at hc;cases hc
 |x::xs,_,⟨a,b,e,I,K⟩,c,hc=>by
  rw [e]at hc
  rcases BG.1 hc with h|h
  ·exact r.one I c h
  ·exact Gu K c h
variable{ys:List α}
def zd{α:Type}{r:Rp α}{S:SH}: ∀{xs ys:List α} {cs ds:List Value},xE r S cs xs->xE r S ds ys->xE r S (cs++ds) (xs++ys)
 |[],_,_,_,k,h=>by rw [show _=_ from k];exact h
 |_::_,_,_,_,⟨a,b,e,I,K⟩,h=>⟨a,_,by rw [e,ji],I,zd K h⟩
def tR{α:Type}{r:Rp α}{S:SH}: ∀{xs ys:List α} {cs:List Value},xE r S cs (xs++ys)->
  xE r S (cs.take (xs.length*r.sz)) xs/\xE r S (cs.drop (xs.length*r.sz)) ys
 |[],_,_,k=>by simp [xE];exact k
 |x::xs,ys,cs,⟨a,b,e,I,K⟩=>by
  have hl:=r.len I
  have ih:=tR K
  have e1:(x::xs).length*r.sz=a.length+xs.length*r.sz:=by rw [hl,io,wO];omega
  rw [e,e1,List.take_length_add_append,List.drop_length_add_append]
  exact⟨⟨a,_,rfl,I,ih.1⟩,ih.2⟩
def Qi{r:Rp α}{x:α}:xE r S cs [x]↔r.rc S cs x:=by
 constructor
 ·rintro⟨a,b,rfl,h,M⟩
  rw [show b=[]from M,tA];exact h
 ·intro h;exact⟨cs,[],by simp,h,rfl⟩
variable{i:Nat}
def DG{r:Rp α}(h:xE r S cs xs){x:α}(V:xs[i]? =some x):
  r.rc S ((cs.drop (i*r.sz)).take r.sz) x:=by
 have hi:i<xs.length:=(pP.1 V).1
 have e:xs=xs.take i++(x::xs.drop (i+1)):=by
  have:=pP.1 V
  rw [<-this.2,<-uA hi,xQ]
 have hl:(xs.take i).length=i:=by simp;omega
 rw [e]at h
 have K:=(tR h).2
 rw [hl]at K
 obtain⟨a,b,e2,h3,_⟩:=K
 rw [e2,<-r.len h3,List.take_left]
 exact h3

def NI{α:Type}(r:Rp α)(S:SH)(a:Option Addr)(xs:List α):Prop:=
 xs=[]\/ ∃b off c E fr,a=some ⟨b,off,none⟩/\S b=some (.cells c E fr)/\xE r S ((c.toList.drop off).take (xs.length*r.sz)) xs
def f9{α:Type}(r:Rp α):Rp (List α) where
 sz:=1
 agg:=false
 rc:=fun S cs xs=> ∃a cap,cs=[.slice a xs.length cap]/\xs.length<=cap/\cap<=maxLen/\NI r S a xs
 mono:=fun h ⟨a,cap,e,I,K,h3⟩=>⟨a,cap,e,I,K,h3.imp id fun⟨b,off,c,E,fr,e1,e2,e3⟩=>by
  obtain⟨o',h4,h5⟩:=h _ _ e2
  obtain⟨c',rfl,h6⟩:=HS h5 (rD e3)
  exact⟨b,off,c',E,fr,e1,h4,by rw [h6];exact wp h e3⟩⟩
 len:=fun⟨a,cap,e,_⟩=>by rw [e];rfl
 one:=fun⟨a,cap,e,_⟩ c hc=>by rw [e]at hc;simp at hc;subst hc;rfl
 sc:=fun _=>rfl
variable{cap:Nat}
def rA{r:Rp α}:(tD (f9 r) xs).p S v↔ ∃a cap,v= .slice a xs.length cap/\xs.length<=cap/\cap<=maxLen/\NI r S a xs:=by
 constructor
 ·rintro⟨cs,rfl,a,cap,rfl,h⟩;exact⟨a,cap,rfl,h⟩
 ·rintro⟨a,cap,rfl,h⟩;exact⟨_,rfl,a,cap,rfl,h⟩
def Ro{r:Rp α}:(tD (f9 r) []).p S (.slice none 0 0):=rA.2 ⟨none,0,rfl,fa _,lG _,.inl rfl⟩

def bF{α:Type}(r:Rp α)(x:α):Ty where
 p:=fun S v=> ∃b off c E fr,v= .pointer (some ⟨b,off,none⟩)/\S b=some (.cells c E fr)/\r.rc S ((c.toList.drop off).take r.sz) x
 mono:=fun h ⟨b,off,c,E,fr,e1,e2,e3⟩=>by
  obtain⟨o',h4,h5⟩:=h _ _ e2
  obtain⟨c',rfl,h6⟩:=HS h5 (r.len e3)
  exact⟨b,off,c',E,fr,e1,h4,by rw [h6];exact r.mono h e3⟩

def glob:List (Nat×List Value):=[(0,[.int .i64 (1),.int .i64 (0),.int .u64 (0),.string ⟨([]:List UInt8).toArray⟩,.int .i64 (0),.int .i64 (0),.int .u64 (0),.string ⟨([]:List UInt8).toArray⟩,.int .i64 (1),.int .i64 (1),.int .u64 (0),.string ⟨([]:List UInt8).toArray⟩])]
def adn(w:World):Prop:=True
structure lF(w:World)(S:SH):Prop where
 at_: ∀b o,S b=some o-> ∃o',w.heap[b]? =some o' /\Od o o'
 gl: ∀p∈glob,∃c ak fr,S p.1=some (.cells c ak fr)/\c.toList.take p.2.length=p.2
 tb: ∀w' :World,(∀b o,S b=some o-> ∃o',w'.heap[b]? =some o' /\Od o o')->adn w'
instance{w:World}{S:SH}:CoeFun (lF w S) (fun _=> ∀b o,S b=some o-> ∃o',w.heap[b]? =some o' /\Od o o'):=⟨lF.at_⟩
variable{w:World}
def lF.lt(h:lF w S){b:Nat}{o:Obj}(k:S b=some o):b<w.heap.size:=let⟨_,I,_⟩:=h b o k;(yL.1 I).1
def lF.part(h:lF w S){b:Nat}{c:Array Value}{E:TypeId}(k:S b=some (.cells c E fr)){n:Nat}(hl:((c.toList.drop off).take n).length=n):
  ∃c',w.heap[b]? =some (.cells c' E fr)/\(c'.toList.drop off).take n=(c.toList.drop off).take n:=by
 obtain⟨o',I,K⟩:=h b _ k
 obtain⟨c',rfl,h3⟩:=HS K hl
 exact⟨c',I,h3⟩
variable{w' :World}
def lF.same(h:lF w S)(k: ∀b o,S b=some o->w'.heap[b]? =w.heap[b]?):lF w' S:=⟨fun b o e=>by rw [k b o e];exact h b o e,h.gl,h.tb⟩

def s0:Nat->Prop:=fun _=>False
structure jh(B:Nat->Prop)(w:World)(S:SH)(w' :World)(S' :SH):Prop where
 os:w'.os=w.os
 tape:w'.tape=w.tape
 output:w'.output=w.output
 drawn:w.drawn<=w'.drawn
 size:w.heap.size<=w'.heap.size
 heap: ∀k,k<w.heap.size-> ¬B k->w'.heap[k]? =w.heap[k]?
 keep:SH.le S S'
 old: ∀k,k<w.heap.size-> ¬B k->S' k=S k
def jh.refl(B:Nat->Prop)(w:World)(S:SH):jh B w S w S:=⟨rfl,rfl,rfl,fa _,fa _,fun _ _ _=>rfl,SH.le_refl _,fun _ _ _=>rfl⟩
variable{w'' :World}
def jh.trans{B:Nat->Prop}(h:jh B w S w' S')(k:jh B w' S' w'' S''):jh B w S w'' S'' :=
 ⟨k.os.trans h.os,k.tape.trans h.tape,k.output.trans h.output,BZ h.drawn k.drawn,BZ h.size k.size,
  fun i hi M=>(k.heap i (Ad hi h.size) M).trans (h.heap i hi M),SH.le_trans h.keep k.keep,
  fun i hi M=>(k.old i (Ad hi h.size) M).trans (h.old i hi M)⟩
variable{C:Nat->Prop}
def jh.step{B:Nat->Prop}(h:jh B w S w' S')(k:jh C w' S' w'' S'')(hC: ∀b,C b->w.heap.size<=b\/B b):jh B w S w'' S'' :=
 ⟨k.os.trans h.os,k.tape.trans h.tape,k.output.trans h.output,BZ h.drawn k.drawn,BZ h.size k.size,
  fun i hi M=>(k.heap i (Ad hi h.size) (fun hc=>(hC i hc).elim (fun h=>by omega) M)).trans (h.heap i hi M),SH.le_trans h.keep k.keep,
  fun i hi M=>(k.old i (Ad hi h.size) (fun hc=>(hC i hc).elim (fun h=>by omega) M)).trans (h.old i hi M)⟩
def jh.more{B:Nat->Prop}(h:jh B w S w' S')(k: ∀b,B b->C b):jh C w S w' S' :=
 ⟨h.os,h.tape,h.output,h.drawn,h.size,fun i hi M=>h.heap i hi (fun h=>M (k i h)),h.keep,fun i hi M=>h.old i hi (fun h=>M (k i h))⟩
def jh.step0{B:Nat->Prop}(h:jh B w S w' S')(k:jh s0 w' S' w'' S''):jh B w S w'' S'' :=h.step k fun _ M=>M.elim

structure OE where
 fp:Nat->Prop
 p:World->SH->Prop
 here: ∀{w S},p w S-> ∀k,fp k->k<w.heap.size
 kept: ∀{C w w' S S'},p w S->jh C w S w' S' ->(∀k,fp k-> ¬C k)->p w' S'
def OE.holds(e:OE)(base:Nat)(B:Nat->Prop)(w:World)(S:SH):Prop:=e.p w S/\ ∀k,e.fp k->base<=k\/B k
def OE.apart(e f:OE):Prop:= ∀b,e.fp b-> ¬f.fp b
def dN(base:Nat)(B:Nat->Prop)(w:World)(S:SH):List OE->Prop
 |[]=>True
 |e::aK=>e.holds base B w S/\(∀f∈aK,e.apart f)/\dN base B w S aK
def MU{e:OE}{base:Nat}{B:Nat->Prop}(h:e.holds base B w S)(k:jh C w S w' S')(hC: ∀b,e.fp b-> ¬C b):e.holds base B w' S' :=⟨e.kept h.1 k hC,h.2⟩
variable{aK:List OE}{f:FuncId}
def dN.ext{base:Nat}{B:Nat->Prop}(k:jh C w S w' S'): ∀{aK:List OE},dN base B w S aK->(∀e∈aK,∀b,e.fp b-> ¬C b)->dN base B w' S' aK
 |[],_,_=>trivial
 |e::_,⟨I,K,h3⟩,hC=>⟨MU I k (hC e (mp ..)),K,dN.ext k h3 fun f hf=>hC f (lT _ hf)⟩
def dN.ext0{base:Nat}{B:Nat->Prop}(k:jh s0 w S w' S')(h:dN base B w S aK):dN base B w' S' aK:=
 h.ext k fun _ _ _ _ M=>M
def dN.mem{base:Nat}{B:Nat->Prop}: ∀{aK:List OE},dN base B w S aK-> ∀e∈aK,e.holds base B w S
 |_::_,⟨I,_,_⟩,_,.head _=>I
 |_::_,⟨_,_,h3⟩,_,.tail _ hm=>dN.mem h3 _ hm

abbrev nt:=List (Nat×Ty)
def cL:nt->Nat->Option Ty
 |[],_=>none
 |(k,t)::G,j=>bif Nat.beq k j then some t else cL G j
structure Fr where
 n:Nat
 ds:List Deferred
structure eJ(N:Fr)(S:SH)(a:Act)(G:nt):Prop where
 size:a.tmps.size=N.n
 defers:a.defers=N.ds
 at_: ∀k t,cL G k=some t->t.p S (a.tmps.getD k undef)
variable{G:nt}{j:Nat}{t:Ty}
def eJ.mono{N:Fr}(h:eJ N S a G)(k:SH.le S S'):eJ N S' a G:=⟨h.size,h.defers,fun j t e=>t.mono k (h.at_ j t e)⟩
def eJ.sub{N:Fr}{G' :nt}(h:eJ N S a G)(k: ∀j t,cL G' j=some t->cL G j=some t):eJ N S a G' :=⟨h.size,h.defers,fun j t e=>h.at_ j t (k j t e)⟩
variable{u:OE}
def eJ.put{N:Fr}(h:eJ N S a G)(hd:Nat.blt d N.n=true)(hv:t.p S v):eJ N S (a.put (some d) v) ((d,t)::G):=by
 have hd' :d<N.n:=by simpa [wT] using hd
 refine⟨by simp [Act.put,h.size],h.defers,fun j u e=>?_⟩
 unfold cL at e
 by_cases hj:d=j
 ·subst hj
  have e' :t=u:=by simpa using e
  rw [e']at hv
  simp [Act.put,Nb,h.size,hd',hv]
 ·have M:Nat.beq d j=false:=by cases hh:Nat.beq d j with
   |false=>rfl
   |true=>exact absurd (wQ hh) hj
  rw [M]at e
  have:=h.at_ j u e
  simpa [Act.put,Nb,Array.getElem?_setIfInBounds,hj] using this
def PS:nt->nt->Prop
 |[],_=>True
 |(k,t)::G',G=>cL G k=some t/\PS G' G
def JU: ∀{G' G:nt},PS G' G-> ∀j t,cL G' j=some t->cL G j=some t
 |(k,t)::G',G,⟨I,K⟩,j,u,e=>by
  unfold cL at e
  by_cases M:Nat.beq k j=true
  ·rw [M]at e
   have:=wQ M
   subst this
   simp only [cond_true]at e
   rw [<-e];exact I
  ·rw [Gb]at M
   rw [M]at e
   exact JU K j u e

def bk(N:Fr)(G:nt)(x:Operand)(t:Ty):Prop:= ∀S a,eJ N S a G->t.p S (a.eval x)
def Y{N:Fr}(h:cL G k=some t):bk N G (.tmp k) t:=fun _ _ hF=>hF.at_ k t h
def hI{N:Fr}{k:IntKind}{n:Int}:bk N G (.const (.int k n)) (tD (rI k) n):=fun _ _ _=>dL.2 rfl
def hB{N:Fr}:bk N G (.const (.bool b)) (tD rB b):=fun _ _ _=>ko.2 rfl
def hS{N:Fr}{s:Array UInt8}:bk N G (.const (.string ⟨s⟩)) (tD rS s.toList):=fun _ _ _=>CA.2 rfl
def zh{N:Fr}{r:Rp α}:bk N G (.const (.slice none 0 0)) (tD (f9 r) []):=fun _ _ _=>Ro
def hV{N:Fr}:bk N G (.const v) (tV v):=fun _ _ _=>rfl

section
variable{P:Program}
end

def fw(r:Option Nat):Fence:={fn:=fun _=>True,depth:=none,alive:=false,round:=r}
variable{args:α->List Ty}
def lE{r:Option Nat}{n:Nat}{P:Program}{args:Array Value}{R:Ending->World->Prop}:CallsIn (fw r) n P f args w R↔Calls P f args w R:=callsIn_wide
def OO{r:Option Nat}{n:Nat}:(fw r).depth.isSome=true->1<=n:=fun h=>by cases h
structure En where
 P:Program
 N:Fr
 B:Nat->Prop
 w0:World
 S0:SH
 r:Option Nat
def En.base(E:En):Nat:=E.w0.heap.size

def opQ(P:Program)(o:Oper)(a:Act)(h2:Act->World->Prop):Result Next->Prop
 | .ok (.value v) w' =>h2 (a.put o.dst v) w'
 | .ok .skip w' =>h2 (a.put o.dst undef) w'
 | .ok (.enter f args) w' =>Calls P f args w' fun e w'' => ∃v,e= .returned v/\h2 (a.put o.dst v) w''
 | .ok (.round l f tmps assign body) w' =>RoundIn (fw none) 0 P l f tmps assign body w' fun e w'' => ∃v,e= .returned v/\h2 (a.put o.dst v) w''
 |_=>False
def Oc(P:Program)(o:Oper)(a:Act)(w:World)(h2:Act->World->Prop):Prop:=(∀c,o.op≠ .defer c)/\opQ P o a h2 ((execOp a.eval o).run P w)
variable{l:Option Nat}
def Qf{r:Option Nat}{n:Nat}{P:Program}{l:Nat}{tmps:Array Value}{assign body:Code}{R:Ending->World->Prop}(h:RoundIn (fw none) 0 P l f tmps assign body w R):RoundIn (fw r) n P l f tmps assign body w R:=
 ⟨trivial,fun c cs _=>h.2 c cs (fun _ hd=>by cases hd)⟩
variable{h2 K' :Act->World->Prop}
def Vd{P:Program}(hK: ∀a w,h2 a w->K' a w){r:Result Next}(h:opQ P o a h2 r):opQ P o a K' r:=by
 cases r with
 |ok n w=>
  cases n<;>simp only [opQ]at h ⊢
  case value=>exact hK _ _ h
  case skip=>exact hK _ _ h
  case enter f args=>exact h.mono fun e w' ⟨v,he,hk⟩=>⟨v,he,hK _ _ hk⟩
  case round l f tmps assign body=>exact h.mono fun e w' ⟨v,he,hk⟩=>⟨v,he,hK _ _ hk⟩
 |halt x w=>simp only [opQ]at h
def qI{P:Program}(hK: ∀a w,h2 a w->K' a w)(h:Oc P o a w h2):Oc P o a w K' :=⟨h.1,Vd hK h.2⟩
variable{aJ:Exit->Act->World->Prop}{β:Type}{res:β->Ty}
def vp{P:Program}{r:Option Nat}(hK: ∀a w,h2 a w->K' a w)(h:Oc P o a w h2):o.wpIn (fw r) 0 P a w K' aJ:=by
 obtain⟨hd,h⟩:=h
 refine⟨fun _ _=>trivial,?_⟩
 rw [Oper.semAt_eq _ _ _ hd]
 generalize (execOp a.eval o).run P w=res at h
 cases res with
 |ok n w=>
  cases n<;>simp only [opQ]at h<;>simp only [Oper.uponIn]
  case value=>exact hK _ _ h
  case skip=>exact hK _ _ h
  case enter f args=>exact⟨OO,lE.2 (h.mono fun e w' ⟨v,he,hk⟩=>by subst he;exact hK _ _ hk)⟩
  case round l f tmps assign body=>exact⟨OO,(Qf h).mono fun e w' ⟨v,he,hk⟩=>by subst he;exact hK _ _ hk⟩
 |halt x w=>simp only [opQ]at h

def cz(E:En)(aK:List OE)(G:nt)(o:Oper)(t:Ty):Prop:=
 ∀a w S,lF w S->dN E.base E.B w S aK->eJ E.N S a G->
  Oc E.P o a w (fun a' w' => ∃v S',a' =a.put o.dst v/\jh s0 w S w' S' /\lF w' S' /\t.p S' v)
structure St(E:En)(aK:List OE)(G:nt)(a:Act)(w:World)(S:SH):Prop where
 ext:jh E.B E.w0 E.S0 w S
 sat:lF w S
 own:dN E.base E.B w S aK
 facts:eJ E.N S a G
def RG(E:En)(ops:Array Oper)(aJ:Exit->Act->World->Prop)(l:List Oper)(aK:List OE)(G:nt):Prop:= ∀a w S,St E aK G a w S->wpListIn (fw E.r) 0 E.P ops aJ l a w
def CG(E:En)(aJ:Exit->Act->World->Prop)(c:Code)(aK:List OE)(G:nt):Prop:= ∀a w S,St E aK G a w S->c.wpIn (fw E.r) 0 E.P aJ a w
def AT(E:En)(aJ:Exit->Act->World->Prop)(e:Exit)(aK:List OE)(G:nt):Prop:= ∀a w S,St E aK G a w S->aJ e a w

variable{after:Array Edge}{fn:Func}{ops:Array Oper}{pos:String}{ts:List Ty}{y:Operand}
section
variable{E:En}{G' :nt}{l:List Oper}
def St.step(h:St E aK G a w S)(k:jh s0 w S w' S')(hs:lF w' S')(hd:Nat.blt d E.N.n=true)(hv:t.p S' v):
  St E aK ((d,t)::G) (a.put (some d) v) w' S' :=
 ⟨h.ext.step0 k,hs,h.own.ext0 k,(h.facts.mono k.keep).put hd hv⟩
def St.sub(h:St E aK G a w S)(k:PS G' G):St E aK G' a w S:=⟨h.ext,h.sat,h.own,h.facts.sub (JU k)⟩
def RG.of(H:o.guard=none)(h: ∀a w S,St E aK G a w S->Oc E.P o a w (fun a' w' =>wpListIn (fw E.r) 0 E.P ops aJ l a' w')):RG E ops aJ (o::l) aK G:=fun a w S st=>
 wpListIn_plain H fun _ hK=>vp hK (h a w S st)

def ru{op:Op}{ty:TypeId}(h:cz E aK G ⟨some d,op,ty,pos,after,none⟩ t)(hd:Nat.blt d E.N.n=true)(k:RG E ops aJ l aK ((d,t)::G)):
  RG E ops aJ (⟨some d,op,ty,pos,after,none⟩::l) aK G:= .of rfl fun a w S st=>
 qI (fun a' w' ⟨_,_,ha,he,hs,hv⟩=>by subst ha;exact k _ _ _ (st.step he hs hd hv)) (h a w S st.sat st.own st.facts)
def aY(h:AT E aJ .normal aK G):RG E ops aJ [] aK G:=fun a w S st=>h a w S st
def au{id:Nat}{l:List Oper}(h:RG E l.toArray aJ l aK G):CG E aJ (.region id l.toArray false) aK G:=fun a w S st=>wpIn_region_lit (h a w S st)
def aA{x y:Code}(h:CG E (Exit.then (y.wpIn (fw E.r) 0 E.P aJ) aJ) x aK G):CG E aJ (.seq x y) aK G:=fun a w S st=>wpIn_seq (h a w S st)
def ap{y:Code}(h:CG E aJ y aK G):AT E (Exit.then (y.wpIn (fw E.r) 0 E.P aJ) aJ) .normal aK G:=h
def bc(h:AT E aJ .normal aK G):CG E aJ .skip aK G:=fun a w S st=>wpIn_skip (h a w S st)
def d7{id:Nat}(h:AT E aJ (.exit id) aK G):CG E aJ (.exit id) aK G:=fun a w S st=>wpIn_exit (h a w S st)
def fD(h:AT E aJ .ret aK G):CG E aJ .ret aK G:=fun a w S st=>wpIn_ret (h a w S st)
def I9(h:CG E aJ c aK G')(k:PS G' G):CG E aJ c aK G:=fun a w S st=>h a w S (st.sub k)
def ce{e:Exit}(h:AT E aJ e aK G')(k:PS G' G):AT E aJ e aK G:=fun a w S st=>h a w S (st.sub k)
def rJ{c:Operand}{x y:Code}(M:bk E.N G c (tD rB b))(V:b=true->CG E aJ x aK G)(hy:b=false->CG E aJ y aK G):CG E aJ (.cond c x y) aK G:=fun a w S st=>by
 have hv:a.eval c= .bool b:=ko.1 (M S a st.facts)
 refine wpIn_cond hv ?_
 cases b with
 |true=>exact V rfl a w S st
 |false=>exact hy rfl a w S st
def am{id:Nat}(h:CG E (Exit.inBlock id aJ) c aK G):CG E aJ (.block id c) aK G:=fun a w S st=>wpIn_block (h a w S st)
def AM(r:Option Nat)(P:Program)(c:Code)(aJ:Exit->Act->World->Prop)(a:Act)(w:World):Prop:=
 ∀(b:Frame) (k:List Item) (cs:List Frame),b.roundOf=r-> ∃e a' w',aJ e a' w' /\ArrivesIn (Machine.fenced P (fw r)) P (lone (b.atR a (.code c:: .inLoop c::k)) cs w) b k cs e a' w'
def RW{r:Option Nat}{n:Nat}:(fw r).room n:=fun _ hd=>by cases hd
def Lg{r:Option Nat}{P:Program}{aJ:Exit->Act->World->Prop}(h:AM r P c aJ a w):(Code.loop c).wpIn (fw r) 0 P aJ a w:=fun b k cs hro M hr=>
 let⟨e,a',w',hq,harr⟩:=h b k cs hro
 ⟨e,a',w',hq,.of_steps (.one (fenced_calm M hr rfl) stepR_loop) harr⟩
def Jy{r:Option Nat}{P:Program}{aJ:Exit->Act->World->Prop}(h:c.wpIn (fw r) 0 P (Exit.then (AM r P c aJ) aJ) a w):AM r P c aJ a w:=by
 intro b k cs hro
 obtain⟨e,a₁,w₁,hq,harr⟩:=h b (.inLoop c::k) cs hro trivial RW
 cases e with
 |normal=>
  obtain⟨e₂,a₂,w₂,hq₂,harr₂⟩:=hq b k cs hro
  exact⟨e₂,a₂,w₂,hq₂,.of_steps (StepsIn.trans harr (.one (fenced_calm (n:=0) (F:=fw r) trivial RW rfl) stepR_inLoop)) harr₂⟩
 |exit id=>exact⟨_,a₁,w₁,hq,.pass (x:= .inLoop c) rfl (fun _ _=> .inl (by simp)) harr⟩
 |goto l=>exact⟨_,a₁,w₁,hq,.pass (x:= .inLoop c) rfl (fun _ _=> .inl (by simp)) harr⟩
 |ret=>exact⟨_,a₁,w₁,hq,.pass (x:= .inLoop c) rfl (fun _ _=> .inl (by simp)) harr⟩
 |panic ch=>exact⟨_,a₁,w₁,hq,.pass (x:= .inLoop c) rfl (fun _ _=> .inl (by simp)) harr⟩
 |outgrown=>exact⟨_,a₁,w₁,hq,.pass (x:= .inLoop c) rfl (fun _ _=> .inl (by simp)) harr⟩
def LG(E:En)(aJ:Exit->Act->World->Prop)(c:Code)(aK:List OE)(G:nt):Prop:= ∀a w S,St E aK G a w S->AM E.r E.P c aJ a w
def bA(h:LG E aJ c aK G):CG E aJ (.loop c) aK G:=fun a w S st=>Lg (h a w S st)
def cU(h:CG E (Exit.then (AM E.r E.P c aJ) aJ) c aK G):LG E aJ c aK G:=fun a w S st=>Jy (h a w S st)
def aD(h:LG E aJ c aK G')(k:PS G' G):LG E aJ c aK G:=fun a w S st=>h a w S (st.sub k)
def aR(h:LG E aJ c aK G):AT E (Exit.then (AM E.r E.P c aJ) aJ) .normal aK G:=h
def aH{id:Nat}(h:AT E aJ (.exit id) aK G):AT E (Exit.then h2 aJ) (.exit id) aK G:=h
def af(h:AT E aJ .ret aK G):AT E (Exit.then h2 aJ) .ret aK G:=h
def lq{id:Nat}(h:AT E aJ .ret aK G):AT E (Exit.inBlock id aJ) .ret aK G:=h
def ay{id:Nat}(h:AT E aJ .normal aK G):AT E (Exit.inBlock id aJ) .normal aK G:=h
def cF{id:Nat}(h:AT E aJ .normal aK G):AT E (Exit.inBlock id aJ) (.exit id) aK G:=fun a w S st=>by
 simp only [Exit.inBlock,gx];exact h a w S st
def dd{id id' :Nat}(hne:Nat.beq id' id=false)(h:AT E aJ (.exit id') aK G):AT E (Exit.inBlock id aJ) (.exit id') aK G:=fun a w S st=>by
 have:id' ≠id:=fun e=>by subst e;simp at hne
 simp only [Exit.inBlock,this,fU];exact h a w S st

def Aa(S:SH):List Ty->List Value->Prop
 |[],[]=>True
 |t::ts,v::vs=>t.p S v/\Aa S ts vs
 |_,_=>False
def Aa.mono(h:SH.le S S'): ∀{ts:List Ty} {vs:List Value},Aa S ts vs->Aa S' ts vs
 |[],[],_=>trivial
 |t::_,_::_,⟨I,K⟩=>⟨t.mono h I,Aa.mono h K⟩
def Aa.length: ∀{ts:List Ty} {vs:List Value},Aa S ts vs->vs.length=ts.length
 |[],[],_=>rfl
 |_::_,_::_,⟨_,K⟩=>by simp [Aa.length K]
def bY(P:Program)(f:FuncId)(ts:List Ty)(t:Ty):Prop:=
 ∀w S vs,lF w S->Aa S ts vs->Calls P f vs.toArray w fun e w' => ∃v S',e= .returned v/\jh s0 w S w' S' /\lF w' S' /\t.p S' v
def MI(E:En)(t:Ty):Ending->World->Prop:=fun e w' => ∃v S',e= .returned v/\jh E.B E.w0 E.S0 w' S' /\lF w' S' /\t.p S' v
def vh(k:Nat):List Ty->nt
 |[]=>[]
 |t::ts=>(k,t)::vh (k+1) ts
def H3: ∀(ts:List Ty) (k j:Nat) (t:Ty),cL (vh k ts) j=some t-> ∃i,j=k+i/\ts[i]? =some t
 |[],_,_,_,h=>by simp [vh,cL]at h
 |u::ts,k,j,t,h=>by
  unfold vh cL at h
  by_cases M:Nat.beq k j=true
  ·rw [M]at h
   exact⟨0,by rw [wQ M];rfl,by simpa using h⟩
  ·rw [Gb]at M
   rw [M]at h
   obtain⟨i,I,K⟩:=H3 ts (k+1) j t h
   exact⟨i+1,by omega,by simpa using K⟩
def Aa.at_: ∀{ts:List Ty} {vs:List Value} (_:Aa S ts vs) (i:Nat) (t:Ty),ts[i]? =some t-> ∃v,vs[i]? =some v/\t.p S v
 |_::_,v::_,⟨I,_⟩,0,t,h=>⟨v,rfl,by simp at h;rw [<-h];exact I⟩
 |_::ts,_::vs,⟨_,K⟩,i+1,t,h=>by simpa using Aa.at_ K i t (by simpa using h)
def oR{vs:List Value}(h:Aa S ts vs)(n:Nat)(hn:ts.length<=n):
  eJ ⟨n,[]⟩ S {tmps:=vs.toArray++Array.replicate (n-vs.toArray.size) undef,defers:=[]} (vh 0 ts):=by
 have hl:=h.length
 refine⟨by simp;omega,rfl,fun j t hj=>?_⟩
 obtain⟨i,e,hi⟩:=H3 ts 0 j t hj
 have e' :j=i:=by omega
 subst e'
 obtain⟨v,hv,Y⟩:=h.at_ j t hi
 have hlt:j<vs.length:=(pP.1 hv).1
 have:(vs.toArray++Array.replicate (n-vs.toArray.size) undef).getD j undef=v:=by
  rw [Nb,Array.getElem?_append_left (by simpa using hlt)]
  simp [hv]
 rw [this];exact Y
def MR{P:Program}(hf:P.funcs[f]? =some fn)(M:fn.body=some c)(hn:ts.length<=fn.ntmps)(h: ∀w0 S0,CG ⟨P,⟨fn.ntmps,[]⟩,s0,w0,S0,none⟩ (bodyPost P fn (MI ⟨P,⟨fn.ntmps,[]⟩,s0,w0,S0,none⟩ t)) c [] (vh 0 ts)):bY P f ts t:=by
 intro w S vs hs hv
 exact lE.1 (GP (F:=fw none) (n:=0) hf M trivial (h w S _ w S ⟨jh.refl _ _ _,hs,trivial,oR hv _ hn⟩))
def o9(P:Program)(fn:Func)(k:Nat)(h:fn.results= #[.tmp k])(tmps:Array Value)(w:World):(results fn tmps).run P w= .ok (tmps.getD k undef) w:=by
 simp [results,h]
def av{P:Program}{N:Nat}{B:Nat->Prop}{w0:World}{S0:SH}(hr:fn.results= #[.tmp k])(hk:cL G k=some t):
  AT ⟨P,⟨N,[]⟩,B,w0,S0,none⟩ (bodyPost P fn (MI ⟨P,⟨N,[]⟩,B,w0,S0,none⟩ t)) .ret aK G:=fun _ _ S st=>
 ⟨st.facts.defers,_,o9 P fn k hr _ _,_,S,rfl,st.ext,st.sat,st.facts.at_ k t hk⟩
def tT(ts:List Ty):Ty where
 p:=fun S v=> ∃vs,v= .tuple vs.toArray/\Aa S ts vs
 mono:=fun h k=>by obtain⟨vs,e,k⟩:=k;exact⟨vs,e,Aa.mono h k⟩
def Gd(P:Program)(fn:Func)(j k:Nat)(h:fn.results= #[.tmp j,.tmp k])(tmps:Array Value)(w:World):(results fn tmps).run P w= .ok (.tuple #[tmps.getD j undef,tmps.getD k undef]) w:=by
 simp [results,h]
def bH{P:Program}{N:Nat}{B:Nat->Prop}{w0:World}{S0:SH}{u:Ty}(hr:fn.results= #[.tmp j,.tmp k])(hj:cL G j=some t)(hk:cL G k=some u):
  AT ⟨P,⟨N,[]⟩,B,w0,S0,none⟩ (bodyPost P fn (MI ⟨P,⟨N,[]⟩,B,w0,S0,none⟩ (tT [t,u]))) .ret aK G:=fun _ _ S st=>
 ⟨st.facts.defers,_,Gd P fn j k hr _ _,_,S,rfl,st.ext,st.sat,[_,_],rfl,st.facts.at_ j t hj,st.facts.at_ k u hk,trivial⟩
def Dy(P:Program)(fn:Func)(i j k:Nat)(h:fn.results= #[.tmp i,.tmp j,.tmp k])(tmps:Array Value)(w:World):(results fn tmps).run P w= .ok (.tuple #[tmps.getD i undef,tmps.getD j undef,tmps.getD k undef]) w:=by
 simp [results,h]
def Tf{P:Program}{N:Nat}{B:Nat->Prop}{w0:World}{S0:SH}{s u:Ty}(hr:fn.results= #[.tmp i,.tmp j,.tmp k])(hi:cL G i=some s)(hj:cL G j=some t)(hk:cL G k=some u):
  AT ⟨P,⟨N,[]⟩,B,w0,S0,none⟩ (bodyPost P fn (MI ⟨P,⟨N,[]⟩,B,w0,S0,none⟩ (tT [s,t,u]))) .ret aK G:=fun _ _ S st=>
 ⟨st.facts.defers,_,Dy P fn i j k hr _ _,_,S,rfl,st.ext,st.sat,[_,_,_],rfl,st.facts.at_ i s hi,st.facts.at_ j t hj,st.facts.at_ k u hk,trivial⟩
def ya(P:Program)(fn:Func)(h:fn.results= #[])(tmps:Array Value)(w:World):(results fn tmps).run P w= .ok (.tuple #[]) w:=by
 simp [results,h]
end

variable{dst:Option Tmp}{g:Option (Nat×Bool)}{k' :IntKind}{m:Int}{xt yt:TypeId}
section
variable{E:En}{ty:TypeId}
def cz.of_run(h: ∀a w S,lF w S->dN E.base E.B w S aK->eJ E.N S a G->
  ∃v w' S',(execOp a.eval o).run E.P w= .ok (.value v) w' /\jh s0 w S w' S' /\lF w' S' /\t.p S' v)(hd: ∀c,o.op≠ .defer c:=by intro c h;cases h):cz E aK G o t:=fun a w S hs ho hf=>by
 obtain⟨v,w',S',hr,he,hs',hv⟩:=h a w S hs ho hf
 refine⟨hd,?_⟩
 rw [hr]
 exact⟨v,S',rfl,he,hs',hv⟩
def cz.of_pure(h: ∀a w S,lF w S->dN E.base E.B w S aK->eJ E.N S a G-> ∃v,(execOp a.eval o).run E.P w= .ok (.value v) w/\t.p S v)(hd: ∀c,o.op≠ .defer c:=by intro c h;cases h):cz E aK G o t:=
 .of_run (fun a w S hs ho hf=>let⟨v,hr,hv⟩:=h a w S hs ho hf;⟨v,w,S,hr,jh.refl _ _ _,hs,hv⟩) hd

def cv(V:bk E.N G x t):cz E aK G ⟨dst,.move x,ty,pos,after,g⟩ t:=
 .of_pure fun a _ S _ _ hf=>⟨a.eval x,rfl,V S a hf⟩
def bp(V:bk E.N G x t):cz E aK G ⟨dst,.assign x,ty,pos,after,g⟩ t:=
 .of_pure fun a _ S _ _ hf=>⟨a.eval x,rfl,V S a hf⟩
def Gw{c:Operand}(hc:bk E.N G c (tD rB b))(V:b=true->bk E.N G x t)(hy:b=false->bk E.N G y t):cz E aK G ⟨dst,.pick c x y,ty,pos,after,g⟩ t:=
 .of_pure fun a _ S _ _ hf=>by
  have I:a.eval c= .bool b:=ko.1 (hc S a hf)
  refine⟨if b then a.eval x else a.eval y,by simp [execOp,I,asBool],?_⟩
  cases b with
  |true=>exact V rfl S a hf
  |false=>exact hy rfl S a hf

section
variable{k:IntKind}{n:Int}
def FZ{P:Program}{op:BinOp}{xt:TypeId}{x y:Operand}{k:IntKind}{m n:Int}:(eqGuard op xt x y (.int k m) (.int k' n)).run P w= .ok () w:=by
 unfold eqGuard
 cases op<;>rfl
def tU{op:BinOp}(V:bk E.N G x (tD (rI k) m))(hy:bk E.N G y (tD (rI k) n))(hv: ∀P w,(binOp op xt (.int k m) (.int k n)).run P w= .ok v w)(Y: ∀S,t.p S v):
  cz E aK G ⟨dst,.binOp op xt x y yt,ty,pos,after,g⟩ t:=
 .of_pure fun a w S _ _ hf=>by
  have I:a.eval x= .int k m:=dL.1 (V S a hf)
  have K:a.eval y= .int k n:=dL.1 (hy S a hf)
  refine⟨v,?_,Y S⟩
  simp [execOp,I,K,FZ,hv]
def eG(V:bk E.N G x (tD (rI k) m))(hy:bk E.N G y (tD (rI k) n)):cz E aK G ⟨dst,.binOp .add xt x y yt,ty,pos,after,g⟩ (tD (rI k) (k.wrap (m+n))):=
 tU V hy (fun _ _=>by simp [binOp,Op.intArith]) (fun _=>dL.2 rfl)
def dX(V:bk E.N G x (tD (rI k) m))(hy:bk E.N G y (tD (rI k) n)):cz E aK G ⟨dst,.binOp .sub xt x y yt,ty,pos,after,g⟩ (tD (rI k) (k.wrap (m-n))):=
 tU V hy (fun _ _=>by simp [binOp,Op.intArith]) (fun _=>dL.2 rfl)
def xF(V:bk E.N G x (tD (rI k) m))(hy:bk E.N G y (tD (rI k) n)):cz E aK G ⟨dst,.binOp .mul xt x y yt,ty,pos,after,g⟩ (tD (rI k) (k.wrap (m*n))):=
 tU V hy (fun _ _=>by simp [binOp,Op.intArith]) (fun _=>dL.2 rfl)
def Vf(V:bk E.N G x (tD (rI k) m))(hy:bk E.N G y (tD (rI k) n))(h0:n≠0):cz E aK G ⟨dst,.binOp .quo xt x y yt,ty,pos,after,g⟩ (tD (rI k) (k.wrap (m.tdiv n))):=
 tU V hy (fun _ _=>by simp [binOp,Op.intDiv,h0]) (fun _=>dL.2 rfl)
def EX(V:bk E.N G x (tD (rI k) m))(hy:bk E.N G y (tD (rI k) n))(h0:n≠0):cz E aK G ⟨dst,.binOp .rem xt x y yt,ty,pos,after,g⟩ (tD (rI k) (m.tmod n)):=
 tU V hy (fun _ _=>by simp [binOp,Op.intDiv,h0]) (fun _=>dL.2 rfl)
def du(V:bk E.N G x (tD (rI k) m))(hy:bk E.N G y (tD (rI k) n)):cz E aK G ⟨dst,.binOp .lss xt x y yt,ty,pos,after,g⟩ (tD rB (decide (m<n))):=
 tU V hy (fun _ _=>by simp [binOp,Op.intCmp]) (fun _=>ko.2 rfl)
def jm(V:bk E.N G x (tD (rI k) m))(hy:bk E.N G y (tD (rI k) n)):cz E aK G ⟨dst,.binOp .leq xt x y yt,ty,pos,after,g⟩ (tD rB (decide (m<=n))):=
 tU V hy (fun _ _=>by simp [binOp,Op.intCmp]) (fun _=>ko.2 rfl)
def dy(V:bk E.N G x (tD (rI k) m))(hy:bk E.N G y (tD (rI k) n)):cz E aK G ⟨dst,.binOp .gtr xt x y yt,ty,pos,after,g⟩ (tD rB (decide (n<m))):=
 tU V hy (fun _ _=>by simp [binOp,Op.intCmp]) (fun _=>ko.2 rfl)
def eF(V:bk E.N G x (tD (rI k) m))(hy:bk E.N G y (tD (rI k) n)):cz E aK G ⟨dst,.binOp .geq xt x y yt,ty,pos,after,g⟩ (tD rB (decide (n<=m))):=
 tU V hy (fun _ _=>by simp [binOp,Op.intCmp]) (fun _=>ko.2 rfl)
def iK(V:bk E.N G x (tD (rI k) m))(hy:bk E.N G y (tD (rI k) n)):cz E aK G ⟨dst,.binOp .eql xt x y yt,ty,pos,after,g⟩ (tD rB (m==n)):=
 tU V hy (fun _ _=>by simp [binOp,Op.intCmp]) (fun _=>ko.2 rfl)
def d6(V:bk E.N G x (tD (rI k) m))(hy:bk E.N G y (tD (rI k) n)):cz E aK G ⟨dst,.binOp .neq xt x y yt,ty,pos,after,g⟩ (tD rB (m !=n)):=
 tU V hy (fun _ _=>by simp [binOp,Op.intCmp]) (fun _=>ko.2 rfl)
def fx(op:BinOp)(k:IntKind)(x y:Int):Int:=
 k.wrap (match op with
  | .and=>(BitVec.ofInt k.bits x&&&BitVec.ofInt k.bits y).toNat
  | .or=>(BitVec.ofInt k.bits x|||BitVec.ofInt k.bits y).toNat
  | .xor=>(BitVec.ofInt k.bits x^^^BitVec.ofInt k.bits y).toNat
  |_=>(BitVec.ofInt k.bits x&&& ~~~BitVec.ofInt k.bits y).toNat:Nat)
def EY(V:bk E.N G x (tD (rI k) m))(hy:bk E.N G y (tD (rI k) n)):cz E aK G ⟨dst,.binOp .and xt x y yt,ty,pos,after,g⟩ (tD (rI k) (fx .and k m n)):=
 tU V hy (fun _ _=>by simp [binOp,Op.intBits];rfl) (fun _=>dL.2 rfl)
def EW(V:bk E.N G x (tD (rI k) m))(hy:bk E.N G y (tD (rI k) n)):cz E aK G ⟨dst,.binOp .xor xt x y yt,ty,pos,after,g⟩ (tD (rI k) (fx .xor k m n)):=
 tU V hy (fun _ _=>by simp [binOp,Op.intBits];rfl) (fun _=>dL.2 rfl)
def Oe{op:BinOp}(V:bk E.N G x (tD (rI k) m))(hy:bk E.N G y (tD (rI k') n))(hv: ∀P w,(binOp op xt (.int k m) (.int k' n)).run P w= .ok v w)(Y: ∀S,t.p S v):
  cz E aK G ⟨dst,.binOp op xt x y yt,ty,pos,after,g⟩ t:=
 .of_pure fun a w S _ _ hf=>by
  have I:a.eval x= .int k m:=dL.1 (V S a hf)
  have K:a.eval y= .int k' n:=dL.1 (hy S a hf)
  refine⟨v,?_,Y S⟩
  simp [execOp,I,K,FZ,hv]
def LN(V:bk E.N G x (tD (rI k) m))(hy:bk E.N G y (tD (rI k') n))(h0:0<=n):cz E aK G ⟨dst,.binOp .shl xt x y yt,ty,pos,after,g⟩ (tD (rI k) (k.wrap (m*2^(min n.toNat k.bits)))):=
 Oe V hy (fun _ _=>by simp [binOp,Op.shift,Int.not_lt.2 h0]) (fun _=>dL.2 rfl)
def vc(V:bk E.N G x (tD (rI k) m))(hy:bk E.N G y (tD (rI k') n))(h0:0<=n):cz E aK G ⟨dst,.binOp .shr xt x y yt,ty,pos,after,g⟩ (tD (rI k) (m.fdiv (2^(min n.toNat k.bits)))):=
 Oe V hy (fun _ _=>by simp [binOp,Op.shift,Int.not_lt.2 h0]) (fun _=>dL.2 rfl)
def LQ(V:bk E.N G x (tD (rI k) m)):cz E aK G ⟨dst,.unOp .neg xt x,ty,pos,after,g⟩ (tD (rI k) (k.wrap (0-m))):=
 .of_pure fun a w S _ _ hf=>by
  have I:a.eval x= .int k m:=dL.1 (V S a hf)
  exact⟨.int k (k.wrap (0-m)),by simp [execOp,I,Op.unary,Op.intArith],dL.2 rfl⟩
def LU(V:bk E.N G x (tD (rI k) m)):cz E aK G ⟨dst,.unOp .xor xt x,ty,pos,after,g⟩ (tD (rI k) (fx .xor k (if k.signed then -1 else k.max) m)):=
 .of_pure fun a w S _ _ hf=>by
  have I:a.eval x= .int k m:=dL.1 (V S a hf)
  exact⟨_,by simp [execOp,I,Op.unary,Op.intBits];rfl,dL.2 rfl⟩
def dY(V:bk E.N G x (tD rB b)):cz E aK G ⟨dst,.unOp .not xt x,ty,pos,after,g⟩ (tD rB (!b)):=
 .of_pure fun a w S _ _ hf=>by
  have I:a.eval x= .bool b:=ko.1 (V S a hf)
  exact⟨.bool (!b),by simp [execOp,I,Op.unary],ko.2 rfl⟩
def oL{st dt:TypeId}{d:TypeDesc}(hs:E.P.underlying st=some d)(hd:E.P.underlying dt=some (.int k'))(V:bk E.N G x (tD (rI k) m)):
  cz E aK G ⟨dst,.convert st dt x,ty,pos,after,g⟩ (tD (rI k') (k'.wrap m)):=
 .of_pure fun a w S _ _ hf=>by
  have I:a.eval x= .int k m:=dL.1 (V S a hf)
  refine⟨.int k' (k'.wrap m),?_,dL.2 rfl⟩
  simp only [execOp,I,convert,xK,nc hs,nc hd,zS]
  cases d<;>simp [Conv.intToInt]
end

def yb{P:Program}{t:TypeId}(Y:P.underlying t=some .bool)(d:Nat)(b c:Bool)(w:World):(Op.equalIn (d+1) t (.bool b) (.bool c)).run P w= .ok (b==c) w:=by
 simp [Op.equalIn,nc Y]
def Dz{P:Program}{t:TypeId}{x y:Value}(M: ∀d,(Op.equalIn (d+1) t x y).run P w= .ok b w):(Op.equal t x y).run P w= .ok b w:=M 9999
section
def LT{c:Bool}(Y:E.P.underlying xt=some .bool)(V:bk E.N G x (tD rB b))(hy:bk E.N G y (tD rB c)):cz E aK G ⟨dst,.binOp .eql xt x y yt,ty,pos,after,g⟩ (tD rB (b==c)):=
 .of_pure fun a w S _ _ hf=>by
  have I:a.eval x= .bool b:=ko.1 (V S a hf)
  have K:a.eval y= .bool c:=ko.1 (hy S a hf)
  exact⟨.bool (b==c),by simp [execOp,I,K,eqGuard,binOp,Dz (fun d=>yb Y d b c w)],ko.2 rfl⟩
def DM{c:Bool}(Y:E.P.underlying xt=some .bool)(V:bk E.N G x (tD rB b))(hy:bk E.N G y (tD rB c)):cz E aK G ⟨dst,.binOp .neq xt x y yt,ty,pos,after,g⟩ (tD rB (b !=c)):=
 .of_pure fun a w S _ _ hf=>by
  have I:a.eval x= .bool b:=ko.1 (V S a hf)
  have K:a.eval y= .bool c:=ko.1 (hy S a hf)
  exact⟨.bool (b !=c),by simp [execOp,I,K,eqGuard,binOp,Dz (fun d=>yb Y d b c w)];cases b<;>cases c<;>rfl,ko.2 rfl⟩
def LM{op:BinOp}{u:C0}(V:bk E.N G x (tD rS s))(hy:bk E.N G y (tD rS u))(hv: ∀P w,(Op.stringOp op ⟨s.toArray⟩ ⟨u.toArray⟩).run P w= .ok (.bool b) w)(H: ∀P w,(eqGuard op xt x y (.string ⟨s.toArray⟩) (.string ⟨u.toArray⟩)).run P w= .ok () w)(M: ∀P w,(binOp op xt (.string ⟨s.toArray⟩) (.string ⟨u.toArray⟩)).run P w=(Op.stringOp op ⟨s.toArray⟩ ⟨u.toArray⟩).run P w):
  cz E aK G ⟨dst,.binOp op xt x y yt,ty,pos,after,g⟩ (tD rB b):=
 .of_pure fun a w S _ _ hf=>by
  have I:a.eval x= .string ⟨s.toArray⟩:=CA.1 (V S a hf)
  have K:a.eval y= .string ⟨u.toArray⟩:=CA.1 (hy S a hf)
  refine⟨.bool b,?_,ko.2 rfl⟩
  simp [execOp,I,K,H,M,hv]
def LS{u:C0}(V:bk E.N G x (tD rS s))(hy:bk E.N G y (tD rS u)):cz E aK G ⟨dst,.binOp .eql xt x y yt,ty,pos,after,g⟩ (tD rB (s==u)):=
 LM V hy (fun _ _=>by simp [Op.stringOp]) (fun _ _=>rfl) (fun _ _=>rfl)
def RE{u:C0}(V:bk E.N G x (tD rS s))(hy:bk E.N G y (tD rS u)):cz E aK G ⟨dst,.binOp .neq xt x y yt,ty,pos,after,g⟩ (tD rB (!(s==u))):=
 LM V hy (fun _ _=>by simp [Op.stringOp]) (fun _ _=>rfl) (fun _ _=>rfl)
def RH{u:C0}(V:bk E.N G x (tD rS s))(hy:bk E.N G y (tD rS u)):cz E aK G ⟨dst,.binOp .lss xt x y yt,ty,pos,after,g⟩ (tD rB (Op.bytesLess s u)):=
 LM V hy (fun _ _=>by simp [Op.stringOp]) (fun _ _=>rfl) (fun _ _=>rfl)
def XF{u:C0}(V:bk E.N G x (tD rS s))(hy:bk E.N G y (tD rS u)):cz E aK G ⟨dst,.binOp .gtr xt x y yt,ty,pos,after,g⟩ (tD rB (!(Op.bytesLess s u||s==u))):=
 LM V hy (fun _ _=>by simp [Op.stringOp]) (fun _ _=>rfl) (fun _ _=>rfl)
end
end

def Vw:TypeDesc->Bool
 | .struct _| .array _ _=>true
 |_=>false
structure TI(P:Program)(ak:TypeId)(sz bytes:Nat)(agg:Bool)(z:List Value):Prop where
 info:(P.info? ak).map (fun i=>(i.zero.map (·.cells.toList),i.size,i.bytes))=some (some z,sz,bytes)
 ag:(P.underlying ak).map Vw=some agg
variable{ak:TypeId}{bytes:Nat}{z:List Value}
section
variable{P:Program}{sz:Nat}{agg:Bool}
def TI.get(h:TI P ak sz bytes agg z): ∃i zv,P.info? ak=some i/\i.size=sz/\i.bytes=bytes/\i.zero=some zv/\zv.cells=z.toArray:=by
 have:=h.info
 cases hi:P.info? ak with
 |none=>rw [hi]at this;simp at this
 |some i=>
  rw [hi]at this
  simp only [Option.map_some,Dm,Prod.mk.injEq,yK]at this
  obtain⟨⟨zv,I,K⟩,h3,h4⟩:=this
  exact⟨i,zv,rfl,h3,h4,I,by rw [<-K]⟩
def TI.sizeOf(h:TI P ak sz bytes agg z)(w:World):(Go.sizeOf ak).run P w= .ok sz w:=by
 obtain⟨i,zv,I,K,_⟩:=h.get
 simp [Go.sizeOf,typeInfo,I,K]
def TI.isAgg(h:TI P ak sz bytes agg z)(w:World):(Go.isAgg ak).run P w= .ok agg w:=by
 have:=h.ag
 cases hi:P.underlying ak with
 |none=>rw [hi]at this;simp at this
 |some d=>
  rw [hi]at this
  simp only [Option.map_some,Dm]at this
  simp only [Go.isAgg,xK,nc hi,zS]
  rw [<-this]
  cases d<;>simp [Vw]
def TI.zero(h:TI P ak sz bytes agg z)(w:World): ∃zv,(zeroValue ak).run P w= .ok zv w/\zv.cells=z.toArray:=by
 obtain⟨i,zv,I,_,_,h4,h5⟩:=h.get
 exact⟨zv,by simp [zeroValue,typeInfo,I,h4],h5⟩
end

def lg(b off i:Nat):(⟨b,off,none⟩:Addr).add i=⟨b,off+i,none⟩:=by
 unfold Addr.add
 split
 ·simp_all
 ·rfl
def Ep{b:Nat}{c:Array Value}(h:w.heap[b]? =some (.cells c ak fr))(i:Nat):w.cell? ⟨b,i,none⟩=c[i]? :=by
 simp [World.cell?,h]
def EO{P:Program}{b n:Nat}{c:Array Value}(h:w.heap[b]? =some (.cells c ak fr))(hcs:(c.toList.drop off).take n=cs)(hl:cs.length=n):
  (loadCells ⟨b,off,none⟩ n).run P w= .ok cs.toArray w:=by
 rw [<-hl]
 refine run_loadCells_list w ⟨b,off,none⟩ cs fun j v hv=>?_
 rw [lg,Ep h]
 have hj:j<cs.length:=(pP.1 hv).1
 rw [<-hcs,EG (by omega),zU]at hv
 simpa using hv
variable{U:TypeId}{rest:List Oper}
def mB{P:Program}{b:Nat}{c:Array Value}{sz:Nat}{agg:Bool}(ti:TI P U sz bytes agg z)(h:w.heap[b]? =some (.cells c ak fr)){r:Rp α}(hsz:r.sz=sz)(hag:r.agg=agg){x:α}(V:r.rc S ((c.toList.drop off).take r.sz) x):
  (loadVar U ⟨b,off,none⟩).run P w= .ok (r.val ((c.toList.drop off).take r.sz)) w:=by
 have hl:=r.len V
 subst hsz
 subst hag
 simp only [loadVar,xK,ti.isAgg,zS]
 cases ha:r.agg with
 |true=>simp [ti.sizeOf,EO h rfl hl,Rp.val,ha]
 |false=>
  have I:=r.sc ha
  have hcell:w.cell? ⟨b,off,none⟩=some (((c.toList.drop off).take r.sz).headD undef):=by
   rw [Ep h]
   rw [I]at hl ⊢
   cases hd:c.toList.drop off with
   |nil=>rw [hd]at hl;simp at hl
   |cons v rest=>
    have:(c.toList.drop off)[0]? =some v:=by rw [hd];rfl
    rw [zU]at this
    simpa using this
  simp [hcell,Rp.val,ha]

variable{ats:Array TypeId}{q:Rp β}
section
variable{E:En}{ty:TypeId}
def cJ{r:Rp α}{x:α}{p:Operand}{sz:Nat}{agg:Bool}(ti:TI E.P U sz bytes agg z)(hsz:r.sz=sz)(hag:r.agg=agg)(hp:bk E.N G p (bF r x)):
  cz E aK G ⟨dst,.load U p,ty,pos,after,g⟩ (tD r x):=
 .of_pure fun a w S hs _ hf=>by
  obtain⟨b,off,c,ak,fr,I,K,h3⟩:=hp S a hf
  obtain⟨c',h4,h5⟩:=hs.part K (r.len h3)
  rw [<-h5]at h3
  refine⟨r.val ((c'.toList.drop off).take r.sz),?_,_,rfl,h3⟩
  simp [execOp,I,Instr.loadAt,Instr.sureAddr,mB ti h4 hsz hag h3]

def ZK(s:C0):(ByteArray.mk s.toArray).size=s.length:=by simp [ByteArray.size]
def kZ{r:Rp α}{t:TypeId}(Y:E.P.underlying t=some (.slice e))(V:bk E.N G x (tD (f9 r) xs)):
  cz E aK G ⟨dst,.call ⟨.builtin .len,#[x],#[t]⟩,ty,pos,after,g⟩ (tD (rI .i64) (xs.length:Int)):=
 .of_pure fun a w S _ _ hf=>by
  obtain⟨ad,cap,I,_⟩:=rA.1 (V S a hf)
  refine⟨.int .i64 xs.length,?_,dL.2 rfl⟩
  simp [execOp,resolve,invoke,builtin,Builtin.len_,nc Y,I,goInt]
def ur{t:TypeId}(Y:E.P.underlying t=some .string)(V:bk E.N G x (tD rS s)):
  cz E aK G ⟨dst,.call ⟨.builtin .len,#[x],#[t]⟩,ty,pos,after,g⟩ (tD (rI .i64) (s.length:Int)):=
 .of_pure fun a w S _ _ hf=>by
  have I:a.eval x= .string ⟨s.toArray⟩:=CA.1 (V S a hf)
  refine⟨.int .i64 s.length,?_,dL.2 rfl⟩
  simp [execOp,resolve,invoke,builtin,Builtin.len_,nc Y,I,goInt,ZK]

def di{α:Type}(xs:List α)(i:Int):Option α:=if 0<=i then xs[i.toNat]? else none
def cO(xs:List α)(i:Nat):di xs (i:Int)=xs[i]? :=by simp [di]
def Tp{r:Rp α}{a:Option Addr}(h:NI r S a xs){x:α}(V:xs[i]? =some x):
  ∃b off c ak fr,a=some ⟨b,off,none⟩/\S b=some (.cells c ak fr)/\r.rc S ((c.toList.drop (off+i*r.sz)).take r.sz) x:=by
 rcases h with rfl|⟨b,off,c,ak,fr,e1,e2,e3⟩
 ·simp at V
 ·refine⟨b,off,c,ak,fr,e1,e2,?_⟩
  have h:=DG e3 V
  have hi:i<xs.length:=(pP.1 V).1
  rw [zD,BF,qb]at h
  have:min r.sz (xs.length*r.sz-i*r.sz)=r.sz:=by
   rw [<-Nat.sub_mul]
   have:1*r.sz<=(xs.length-i)*r.sz:=BJ _ (by omega)
   omega
  rw [this]at h
  exact h
def bm{r:Rp α}{y:α}{ix:Operand}{t:TypeId}{k:IntKind}{i:Int}{sz:Nat}{agg:Bool}(Y:E.P.underlying t=some (.slice e))(ti:TI E.P e sz bytes agg z)(hsz:r.sz=sz)(V:bk E.N G x (tD (f9 r) xs))(hi:bk E.N G ix (tD (rI k) i))(hy:di xs i=some y):
  cz E aK G ⟨dst,.indexAddr t x ix,ty,pos,after,g⟩ (bF r y):=
 .of_pure fun a w S _ _ hf=>by
  obtain⟨ad,cap,I,_,_,K⟩:=rA.1 (V S a hf)
  have h3:a.eval ix= .int k i:=dL.1 (hi S a hf)
  have h0:0<=i:=by unfold di at hy;split at hy;assumption;cases hy
  have hy' :xs[i.toNat]? =some y:=by unfold di at hy;rw [br h0]at hy;exact hy
  have hlt:i.toNat<xs.length:=(pP.1 hy').1
  obtain⟨b,off,c,ak,fr,e1,e2,e3⟩:=Tp K hy'
  subst e1
  refine⟨.pointer (some ⟨b,off+i.toNat*r.sz,none⟩),?_,b,_,c,ak,fr,rfl,e2,e3⟩
  have hc:0<=i/\i<(xs.length:Int):=⟨h0,by omega⟩
  simp [execOp,I,h3,Instr.indexAt,asIntOf,nc Y,hc,ti.sizeOf,lg,hsz]

def qZ{α β:Type}(r:Rp α)(off:Nat)(q:Rp β)(get:α->β):Prop:= ∀S cs x,r.rc S cs x->q.rc S ((cs.drop off).take q.sz) (get x)
def dl(P:Program)(ak:TypeId)(i:Nat):Option (Nat×Nat):=
 match P.underlying ak with
 |some (.struct fs)=>(fs[i]?).bind fun f=>(P.info? f.type).map fun q=>(f.offset,q.size)
 |_=>none
def EP{P:Program}{sz:Nat}(h:dl P ak i=some (off,sz)): ∃fs f,P.underlying ak=some (.struct fs)/\fs[i]? =some f/\f.offset=off/\ ∀w,(sizeOf f.type).run P w= .ok sz w:=by
 unfold dl at h
 split at h
 ·rename_i fs hu
  cases hf:fs[i]? with
  |none=>rw [hf]at h;simp at h
  |some f=>
   rw [hf]at h
   cases hq:P.info? f.type with
   |none=>simp [hq]at h
   |some q=>
    simp [hq]at h
    exact⟨fs,f,hu,hf,h.1,fun w=>by simp [sizeOf,typeInfo,hq,h.2]⟩
 ·cases h
def oK{r:Rp α}{get:α->β}{x:α}{sz:Nat}{p:Operand}(hf:dl E.P ak i=some (off,sz))(h0:Nat.beq sz 0=false)(hq:qZ r off q get)(hoff:Nat.ble (off+q.sz) r.sz=true)(hp:bk E.N G p (bF r x)):cz E aK G ⟨dst,.fieldAddr ak p i,ty,pos,after,g⟩ (bF q (get x)):=
 .of_pure fun a w S _ _ hF=>by
  obtain⟨b,o,c,U,fr,I,K,h3⟩:=hp S a hF
  obtain⟨fs,f,e1,e2,e3,e4⟩:=EP hf
  have h0' :sz≠0:=fun e=>by subst e;simp at h0
  have hoff' :off+q.sz<=r.sz:=rL hoff
  refine⟨.pointer (some ⟨b,o+off,none⟩),?_,b,_,c,U,fr,rfl,K,?_⟩
  ·simp [execOp,I,Instr.fieldAt,nc e1,e2,Instr.sureAddr,fieldPlace,e4,h0',e3,lg]
  ·have:=hq S _ x h3
   rw [zD,BF,qb,Df (by omega)]at this
   exact this
def aj(P:Program)(f:FuncId):Bool:=
 match P.funcs[f]? with
 |some fn=> !(fn.name== "runtime.NumGoroutine")&&fn.body.isSome
 |none=>false
def fZ{P:Program}(h:aj P f=true)(args:Array Value)(w:World):(callFunc f args).run P w= .ok (.enter f args) w:=by
 unfold aj at h
 cases hf:P.funcs[f]? with
 |none=>rw [hf]at h;cases h
 |some fn=>
  rw [hf]at h
  simp only [gN,Ai]at h
  have I:fn.name≠ "runtime.NumGoroutine" :=by simpa using h.1
  have K:fn.body≠none:=fun e=>by rw [e]at h;simp at h
  simp [callFunc,hf,I,K]
def kp(N:Fr)(G:nt):List Operand->List Ty->Prop
 |[],[]=>True
 |x::xs,t::ts=>bk N G x t/\kp N G xs ts
 |_,_=>False
def kp.tys{N:Fr}(hF:eJ N S a G): ∀{xs:List Operand} {ts:List Ty},kp N G xs ts->Aa S ts (xs.map a.eval)
 |[],[],_=>trivial
 |_::_,_::_,⟨I,K⟩=>⟨I S a hF,kp.tys hF K⟩
def bo{xs:List Operand}(hc:aj E.P f=true)(hs:bY E.P f ts t)(V:kp E.N G xs ts):
  cz E aK G ⟨dst,.call ⟨.value (.func f),xs.toArray,ats⟩,ty,pos,after,g⟩ t:=fun a w S hS _ hF=>by
 have hr:(execOp a.eval ⟨dst,.call ⟨.value (.func f),xs.toArray,ats⟩,ty,pos,after,g⟩).run E.P w= .ok (.enter f (xs.map a.eval).toArray) w:=by
  simp [execOp,resolve,Act.eval,Deferred.ofValue,invoke,fZ hc]
 refine⟨fun c h=>(by cases h),?_⟩
 rw [hr]
 exact(hs w S _ hS (V.tys hF)).mono fun e w' ⟨v,S',he,I,K,h3⟩=>⟨v,he,v,S',rfl,I,K,h3⟩
end

def pL{o:Obj}(h:k<w.heap.size):(w.alloc o).heap[k]? =w.heap[k]? :=RowKit.Below.heap_alloc w o k h
def SH.set(S:SH)(b:Nat)(o:Obj):SH:=fun k=>if k=b then some o else S k
def qB(S:SH)(b:Nat)(o:Obj):S.set b o b=some o:=br rfl
def uh(S:SH){b:Nat}(o:Obj)(h:k≠b):S.set b o k=S k:=aS h
def Fn{b:Nat}{o:Obj}(h: ∀q,S b=some q->Od q o):SH.le S (S.set b o):=fun k q hq=>by
 by_cases hk:k=b
 ·subst hk;exact⟨o,qB _ _ _,h q hq⟩
 ·exact⟨q,by rw [uh _ _ hk];exact hq,yi q⟩
def lF.set(h:lF w S){b:Nat}{o:Obj}(I:w.heap[b]? =some o')(K:Od o o')(h3: ∀q,S b=some q->Od q o):lF w (S.set b o):=by
 refine⟨fun k q hq=>?_,fun p hp=>?_,fun w' hw' =>h.tb w' fun k q hq=>?_⟩
 ·by_cases hk:k=b
  ·subst hk
   rw [qB]at hq
   cases hq
   exact⟨o',I,K⟩
  ·rw [uh _ _ hk]at hq;exact h k q hq
 ·obtain⟨c,ak,fr,g1,g2⟩:=h.gl p hp
  by_cases hk:p.1=b
  ·subst hk
   obtain⟨d,hd⟩:=h3 _ g1
   refine⟨_,ak,fr,by rw [qB,hd],?_⟩
   rw [List.toList_toArray,Gc ?_]
   ·exact g2
   ·have:=congrArg List.length g2
    rw [B4]at this
    omega
  ·exact⟨c,ak,fr,by rw [uh _ _ hk];exact g1,g2⟩
 ·by_cases hk:k=b
  ·subst hk
   obtain⟨o1,g1,g2⟩:=hw' k o (qB _ _ _)
   exact⟨o1,g1,Kj (h3 q hq) g2⟩
  ·exact hw' k q (by rw [uh _ _ hk];exact hq)
def iD(o:Obj)(hs:lF w S):jh s0 w S (w.alloc o) S/\lF (w.alloc o) S/\S w.heap.size=none:=by
 refine⟨⟨rfl,rfl,rfl,fa _,by simp,fun k hk _=>pL hk,SH.le_refl _,fun _ _ _=>rfl⟩,hs.same fun b q M=>pL (hs.lt M),?_⟩
 cases h:S w.heap.size with
 |none=>rfl
 |some q=>have:=hs.lt h;omega
def tk(o:Obj)(hs:lF w S):jh s0 w S (w.alloc o) (S.set w.heap.size o)/\lF (w.alloc o) (S.set w.heap.size o):=by
 obtain⟨I,K,h3⟩:=iD o hs
 refine⟨⟨rfl,rfl,rfl,fa _,by simp,fun k hk _=>pL hk,Fn fun q hq=>(by rw [h3]at hq;cases hq),fun k hk _=>uh _ _ (by omega)⟩,K.set (Af w o) (yi o) fun q hq=>by rw [h3]at hq;cases hq⟩
def Pu(hs:lF w S):jh s0 w S w.drew S/\lF w.drew S:=⟨⟨rfl,rfl,rfl,Nat.le_succ _,fa _,fun _ _ _=>rfl,SH.le_refl _,fun _ _ _=>rfl⟩,hs.same fun _ _ _=>rfl⟩

def bw(l:Option Nat)(cap n:Nat):Value:=
 match l with
 |none=> .slice none 0 0
 |some b=> .slice (some ⟨b,0,none⟩) n cap
def Cs(w:World)(ak:TypeId)(sz:Nat)(l:Option Nat)(cap n:Nat)(cells:List Value):Prop:=
 match l with
 |none=>n=0/\cells=[]
 |some b=> ∃cur,w.heap[b]? =some (.cells cur ak (0,0))/\n<=cap/\cap<=maxLen/\cur.size=cap*sz/\cur.toList.take (n*sz)=cells
def Fi{α:Type}(m:Bool)(r:Rp α)(ak:TypeId)(l:Option Nat)(cap:Nat)(xs:List α)(w:World)(S:SH):Prop:=
 ∃cells,Cs w ak r.sz l cap xs.length cells/\xE r S cells xs/\ ∀b,l=some b->S b=if m then some (.cells cells.toArray ak (0,0))else none
def Cs.lt{sz b n:Nat}(h:Cs w ak sz (some b) cap n cells):b<w.heap.size:=by
 obtain⟨cur,I,_⟩:=h
 exact(yL.1 I).1
def Cs.ext{sz n:Nat}(h:Cs w ak sz l cap n cells)(k: ∀b,l=some b->w'.heap[b]? =w.heap[b]?):Cs w' ak sz l cap n cells:=by
 cases l with
 |none=>exact h
 |some b=>
  obtain⟨cur,I,K⟩:=h
  exact⟨cur,by rw [k b rfl];exact I,K⟩
def oq{α:Type}(m:Bool)(r:Rp α)(ak:TypeId)(l:Option Nat)(cap:Nat)(xs:List α):OE where
 fp:=fun k=>l=some k
 p:=Fi m r ak l cap xs
 here:=by
  intro w S h k hk
  subst hk
  obtain⟨cells,I,_⟩:=h
  exact I.lt
 kept:=by
  intro C w w' S S' h k hC
  obtain⟨cells,I,K,h3⟩:=h
  refine⟨cells,I.ext fun b M=>?_,wp k.keep K,fun b M=>?_⟩
  ·subst M;exact k.heap b I.lt (hC b rfl)
  ·subst M;rw [k.old b I.lt (hC b rfl)];exact h3 b rfl
abbrev ff{α:Type}(r:Rp α)(ak:TypeId)(l:Option Nat)(cap:Nat)(xs:List α):OE:=oq false r ak l cap xs
abbrev gO{α:Type}(r:Rp α)(ak:TypeId)(l:Option Nat)(cap:Nat)(xs:List α):OE:=oq true r ak l cap xs
def app{α:Type}(xs ys:List α):Option (List α):=if xs.length+ys.length<=68719476736 then some (xs++ys)else none
variable{zs:List α}
def WC(h:app xs ys=some zs):zs=xs++ys/\xs.length+ys.length<=68719476736:=by
 unfold app at h
 split at h
 ·exact⟨by simpa using h.symm,by assumption⟩
 ·cases h
variable{news:List Value}
def BS{P:Program}{t tx ty:TypeId}{i:TypeInfo}(Y:P.underlying t=some (.slice e))(hi:P.info? e=some i){g sLen sCap:Nat}{cur:Array Value}(H:w.heap[g]? =some (.cells cur e (0,0))){x:Value}{n:Nat}(hs:Src P i.size tx x n news w)(hroom:sLen+n<=sCap)(hfit:sLen*i.size+news.length<=cur.size):
  (Builtin.append_ #[t,tx] ty #[.slice (some ⟨g,0,none⟩) sLen sCap,x]).run P w=
   .ok (.slice (some ⟨g,0,none⟩) (sLen+n) sCap) (w.setRow g (cur.toList.take (sLen*i.size)++news++cur.toList.drop (sLen*i.size+news.length)).toArray):=by
 have hst:=run_storeCells_at P g (sLen*i.size) e news 0 cur w H (by simpa using hfit) hs.one
 simp only [vg]at hst
 rcases hs.kind with⟨e',hk⟩|hk<;>simp [Builtin.append_,nc Y,nc hk,sizeOf,typeInfo,hi,hs.len,hroom,hs.cells,Addr.add_lit,hst]
structure aaX(l:Option Nat)(w w' :World):Prop where
 os:w'.os=w.os
 tape:w'.tape=w.tape
 output:w'.output=w.output
 drawn:w.drawn<=w'.drawn
 size:w.heap.size<=w'.heap.size
 heap: ∀k,k<w.heap.size->l≠some k->w'.heap[k]? =w.heap[k]?
variable{t' :TypeId}
def Hu{P:Program}{t ty:TypeId}{sz:Nat}{agg:Bool}{n m:Nat}{x:Value}(ti:TI P ak sz bytes agg z)(hz:Nat.beq z.length sz=true)(h0:Nat.blt 0 sz=true)(h128:Nat.ble bytes 2048=true)(Y:P.underlying t=some (.slice ak))(h:Cs w ak sz l cap n cells)(hs:Src P sz t' x m news w)(hlen:n+m<=68719476736):
  ∃l' cap' w',(Builtin.append_ #[t,t'] ty #[bw l cap n,x]).run P w= .ok (bw l' cap' (n+m)) w' /\Cs w' ak sz l' cap' (n+m) (cells++news)/\aaX l w w' /\(∀b,l' =some b->l=some b\/w.heap.size<=b)/\(∀b,l=some b->l' ≠some b->w'.heap[b]? =w.heap[b]?):=by
 obtain⟨i,zv,hi,I,K,h3,h4⟩:=ti.get
 have h128' :=rL h128
 have h0' :0<sz:=by simpa [wT] using h0
 have hz2:z.length=sz:=wQ hz
 subst I
 have hnl:=hs.newsLen
 have hbytes:(n+m)*i.bytes<=140737488355328:=BZ (zP hlen (by omega:i.bytes<=2048)) (by omega)
 by_cases hm:m=0
 ·subst hm
  have hn0:news=[]:=vZ (by simpa using hnl)
  subst hn0
  refine⟨l,cap,w,?_,by simpa using h,⟨rfl,rfl,rfl,fa _,fa _,fun _ _ _=>rfl⟩,fun b M=> .inl M,fun b _ _=>rfl⟩
  cases l with
  |none=>
   obtain⟨rfl,_⟩:=h
   exact run_append_nothing w t t' ty ak i Y hi none 0 0 (fa _) _ hs
  |some b=>
   obtain⟨cur,_,hle,_⟩:=h
   exact run_append_nothing w t t' ty ak i Y hi (some ⟨b,0,none⟩) n cap hle _ hs
 have abK: ∀old,old<n+m->Builtin.nextslicecap (n+m) old*i.bytes<=281474976710656:=fun old ho=>growslice_fits ho hbytes
 -- a new row
 have fresh: ∀(base:Option Addr) (olds:List Value),bw l cap n= .slice base n cap->olds=cells->cap<n+m->(Builtin.firstCells i.size n (.slice base n cap)).run P w.drew= .ok olds.toArray w.drew->cells.length=n*i.size->
   ∃l' cap' w',(Builtin.append_ #[t,t'] ty #[bw l cap n,x]).run P w= .ok (bw l' cap' (n+m)) w' /\Cs w' ak i.size l' cap' (n+m) (cells++news)/\aaX l w w' /\(∀b,l' =some b->l=some b\/w.heap.size<=b)/\(∀b,l=some b->l' ≠some b->w'.heap[b]? =w.heap[b]?):=by
  intro base olds hv he H hf hcl
  subst he
  have hr:=run_append_grow_src (P:=P) w t t' ty ak i zv Y hi h3 base n cap olds hf x m news hs H (by omega) (abK cap H)
  have hge:=grownCap_ge w (n+m) cap ak
  rw [<-hv]at hr
  refine⟨some w.heap.size,grownCap w (n+m) cap ak,_,hr,⟨_,Af w.drew _,hge,grownCap_le_maxLen _ _ _ _ (by simp only [maxLen];omega),?_,?_⟩,⟨rfl,rfl,rfl,Nat.le_succ _,by simp,fun k hk _=>?_⟩,fun b M=> .inr (Di (sI M)),fun b M _=>?_⟩
  ·have:(Builtin.zeroCells zv.cells (grownCap w (n+m) cap ak-(n+m))).size=(grownCap w (n+m) cap ak-(n+m))*i.size:=by
    rw [size_zeroCells,h4];simp [hz2]
   simp only [Array.size_append,JL,ju,hcl,hnl,this]
   rw [<-wO,<-wO]
   congr 1;omega
  ·have hl2:(olds++news).length=(n+m)*i.size:=by rw [ju,hcl,hnl,wO]
   rw [Array.toList_append,Gc (by simp only [List.toList_toArray];omega)]
   simp only [List.toList_toArray]
   exact u0 (by omega)
  ·exact pL (w:=w.drew) hk
  ·cases l with
   |none=>cases M
   |some b0=>
    have hb' :b0=b:=sI M
    subst hb'
    exact pL (w:=w.drew) (Cs.lt h)
 cases l with
 |none=>
  obtain⟨rfl,rfl⟩:=h
  have:=run_append_grow_src (P:=P) w t t' ty ak i zv Y hi h3 none 0 0 [] (run_firstCells_none w.drew i.size 0 0 0) x m news hs (by omega) (by omega) (abK 0 (by omega))
  have hge:=grownCap_ge w (0+m) 0 ak
  refine⟨some w.heap.size,grownCap w (0+m) 0 ak,_,this,⟨_,Af w.drew _,hge,grownCap_le_maxLen _ _ _ _ (by simp only [maxLen];omega),?_,?_⟩,⟨rfl,rfl,rfl,Nat.le_succ _,by simp,fun k hk _=>?_⟩,fun b M=> .inr (Di (sI M)),fun b M=>(by cases M)⟩
  ·have:(Builtin.zeroCells zv.cells (grownCap w (0+m) 0 ak-(0+m))).size=(grownCap w (0+m) 0 ak-(0+m))*i.size:=by
    rw [size_zeroCells,h4];simp [hz2]
   simp only [Array.size_append,JL,lU,hnl,this]
   rw [<-wO]
   congr 1;omega
  ·rw [Array.toList_append,Gc (by simp [hnl])]
   simp only [lU,Ab]
   exact u0 (by omega)
  ·exact pL (w:=w.drew) hk
 |some b=>
  obtain⟨cur,M,hle,hmax,hcs,hct⟩:=h
  have hcl:cells.length=n*i.size:=by
   rw [<-hct,B4,GV,hcs]
   exact Df (BJ _ hle)
  by_cases hroom:n+m<=cap
  ·have hfit:n*i.size+news.length<=cur.size:=by rw [hnl,hcs,<-wO];exact BJ _ hroom
   have hr:=BS (t:=t) (tx:=t') (ty:=ty) Y hi M hs hroom hfit
   refine⟨some b,cap,_,hr,⟨_,setRow_heap w b cur _ ak _ M,hroom,hmax,?_,?_⟩,⟨rfl,rfl,rfl,fa _,by simp [World.setRow],fun k hk hkb=>setRow_other w b k _ (fun e=>hkb (by rw [e]))⟩,fun b' hb' => .inl hb',fun b' hb' hne=>absurd hb' hne⟩
   ·simp only [JL,ju,B4,GR,GV]
    omega
   ·rw [hct,wO,<-hnl,<-hcl,show cells.length+news.length=(cells++news).length from by simp]
    exact List.take_left
  ·refine fresh (some ⟨b,0,none⟩) cells rfl rfl (by omega) (run_firstCells_some w.drew i.size n ⟨b,0,none⟩ n cap cells hcl fun j v hv=>?_) hcl
   have hj:j<cells.length:=(pP.1 hv).1
   have hcell:w.cell? ⟨b,j,none⟩=cur[j]? :=Ep M j
   rw [lg]
   show w.cell? ⟨b,0+j,none⟩=_
   rw [Ab,hcell]
   rw [<-hct,EG (by omega)]at hv
   simpa using hv
def Ar{P:Program}{r:Rp α}{e' :TypeId}(Y:P.underlying t' =some (.slice e'))(hs:lF w S)(hv:(tD (f9 r) ys).p S v): ∃news,Src P r.sz t' v ys.length news w/\xE r S news ys:=by
 obtain⟨ad,c2,rfl,hcap,hmax,hsl⟩:=rA.1 hv
 rcases hsl with rfl|⟨b,off,c,U,fr,e1,e2,e3⟩
 ·refine⟨[],?_,rfl⟩
  cases ad with
  |none=>exact .ofNil w Y c2
  |some a=>exact .ofSlice w Y a 0 c2 [] (by simp) (fun j u hu=>by simp at hu) (fun u hu=>by cases hu)
 ·subst e1
  obtain⟨c',h4,h5⟩:=hs.part e2 (rD e3)
  refine⟨_,.ofSlice w Y ⟨b,off,none⟩ ys.length c2 _ (rD e3) (fun j u hu=>?_) (Gu e3),e3⟩
  rw [lg,Ep h4]
  rw [<-h5]at hu
  have hj:j<ys.length*r.sz:=by
   have:=(pP.1 hu).1
   simp at this;omega
  rw [EG hj,zU]at hu
  simpa using hu
variable{mm:Bool}
def Au{P:Program}{r:Rp α}{t ty:TypeId}{sz:Nat}{agg:Bool}{base:Nat}{B:Nat->Prop}(ti:TI P ak sz bytes agg z)(hsz:r.sz=sz)(hz:Nat.beq z.length sz=true)(h0:Nat.blt 0 sz=true)(h128:Nat.ble bytes 2048=true)(Y:P.underlying t=some (.slice ak))(hs:lF w S)(h:(oq mm r ak l cap xs).holds base B w S)(M:base<=w.heap.size)(hsrc:Src P r.sz t' v ys.length news w)(hrc:xE r S news ys)(hz' :app xs ys=some zs):
  ∃l' cap' w' S',(Builtin.append_ #[t,t'] ty #[bw l cap xs.length,v]).run P w= .ok (bw l' cap' zs.length) w' /\jh (fun k=>l=some k) w S w' S' /\lF w' S' /\(oq mm r ak l' cap' zs).holds base B w' S' /\(∀b,l' =some b->l=some b\/w.heap.size<=b):=by
 subst hsz
 obtain⟨rfl,hlen⟩:=WC hz'
 obtain⟨⟨cells,I,K,h3⟩,hbase⟩:=h
 obtain⟨l',cap',w',hr,hraw,H,hnew,hold⟩:=Hu (ty:=ty) ti hz h0 h128 Y I hsrc hlen
 have hrc' :xE r S (cells++news) (xs++ys):=zd K hrc
 -- what stood settled stands
 have hsat0: ∀k o,S k=some o-> ∃o',w'.heap[k]? =some o' /\Od o o' :=fun k o hk=>by
  have hlt:=hs.lt hk
  by_cases hkl:l=some k
  ·obtain⟨o',e1,e2⟩:=hs k o hk
   by_cases hkl' :l' =some k
   ·subst hkl'
    subst hkl
    have h3' :=h3 k rfl
    cases mm with
    |false=>rw [h3']at hk;cases hk
    |true=>
     rw [h3']at hk
     cases hk
     obtain⟨cur',g1,g2,g3,g4,g5⟩:=hraw
     refine⟨_,g1,?_⟩;refine⟨news++cur'.toList.drop ((xs.length+ys.length)*r.sz),?_⟩
     congr 1
     apply Array.ext'
     rw [<-ji,<-g5,xQ]
   ·rw [hold k hkl hkl'];exact hs k o hk
  ·rw [H.heap k hlt hkl];exact hs k o hk
 have hsat:lF w' S:=⟨hsat0,hs.gl,hs.tb⟩
 have hSn: ∀b,l' =some b->l≠some b->S b=none:=fun b hb' hne=>by
  cases hq:S b with
  |none=>rfl
  |some q=>
   have:=hs.lt hq
   rcases hnew b hb' with h|h
   ·exact absurd h hne
   ·omega
 have hbase' : ∀k,l' =some k->base<=k\/B k:=fun k hk=>by
  rcases hnew k hk with h|h
  ·exact hbase k h
  ·exact .inl (by omega)
 have hz2:(xs++ys).length=xs.length+ys.length:=ju
 cases mm with
 |false=>
  refine⟨l',cap',w',S,by rw [hz2];exact hr,⟨H.os,H.tape,H.output,H.drawn,H.size,fun k hk hkb=>H.heap k hk hkb,SH.le_refl _,fun _ _ _=>rfl⟩,hsat,⟨⟨cells++news,by rw [hz2];exact hraw,hrc',fun b hb' =>?_⟩,hbase'⟩,hnew⟩
  by_cases hlb:l=some b
  ·exact h3 b hlb
  ·exact hSn b hb' hlb
 |true=>
  cases l' with
  |none=>
   refine⟨none,cap',w',S,by rw [hz2];exact hr,⟨H.os,H.tape,H.output,H.drawn,H.size,fun k hk hkb=>H.heap k hk hkb,SH.le_refl _,fun _ _ _=>rfl⟩,hsat,⟨⟨cells++news,by rw [hz2];exact hraw,hrc',fun b hb' =>(by cases hb')⟩,hbase'⟩,hnew⟩
  |some g=>
   have hq3: ∀q,S g=some q->Od q (.cells (cells++news).toArray ak (0,0)):=fun q hq=>by
    by_cases hlb:l=some g
    ·have h4:S g=some (.cells cells.toArray ak (0,0)):=h3 g hlb
     rw [h4]at hq
     cases hq
     exact⟨news,by simp⟩
    ·rw [hSn g rfl hlb]at hq;cases hq
   have hle:SH.le S (S.set g (.cells (cells++news).toArray ak (0,0))):=Fn hq3
   obtain⟨cur',g1,g2,g3,g4,g5⟩:=hraw
   refine⟨some g,cap',w',S.set g (.cells (cells++news).toArray ak (0,0)),by rw [hz2];exact hr,⟨H.os,H.tape,H.output,H.drawn,H.size,fun k hk hkb=>H.heap k hk hkb,hle,fun k hk hkb=>uh _ _ ?_⟩,hsat.set g1 ?_ hq3,⟨⟨cells++news,by rw [hz2];exact⟨cur',g1,g2,g3,g4,g5⟩,wp hle hrc',fun b hb' =>?_⟩,hbase'⟩,hnew⟩
   ·rintro rfl
    rcases hnew k rfl with h|h
    ·exact hkb h
    ·omega
   ·refine⟨cur'.toList.drop ((xs.length+ys.length)*r.sz),?_⟩
    congr 1
    apply Array.ext'
    rw [<-g5,xQ]
   ·have hb2:g=b:=sI hb'
    subst hb2
    exact qB _ _ _

def QZ{e f:OE}(h:e.apart f):f.apart e:=fun b M he=>h b he M
def dN.swap{base:Nat}{B:Nat->Prop}{e f:OE}(h:dN base B w S (e::f::aK)):dN base B w S (f::e::aK):=by
 obtain⟨I,K,h3,h4,h5⟩:=h
 refine⟨h3,?_,I,?_,h5⟩
 ·intro g H
  rcases gW.1 H with rfl|H
  ·exact QZ (K _ (mp ..))
  ·exact h4 g H
 ·intro g H
  exact K g (lT _ H)
def uX{base:Nat}{B:Nat->Prop}{e:OE}{O' :List OE}(h:dN base B w S (e::aK))(k:dN base B w S aK->dN base B w S O')(hm: ∀f∈O',f∈aK):dN base B w S (e::O'):=
 ⟨h.1,fun f hf=>h.2.1 f (hm f hf),k h.2.2⟩
def ui{base:Nat}{B:Nat->Prop}{a b c:OE}(h:dN base B w S (a::b::c::aK)):dN base B w S (c::a::b::aK):=
 (uX h dN.swap (fun f hf=>by simp only [gW]at hf ⊢;rcases hf with h|h|h<;>simp [h])).swap
def wM{base:Nat}{B:Nat->Prop}{a b c d:OE}(h:dN base B w S (a::b::c::d::aK)):dN base B w S (d::a::b::c::aK):=
 (uX h ui (fun f hf=>by simp only [gW]at hf ⊢;rcases hf with h|h|h|h<;>simp [h])).swap
def wL{base:Nat}{B:Nat->Prop}{a b c d e:OE}(h:dN base B w S (a::b::c::d::e::aK)):dN base B w S (e::a::b::c::d::aK):=
 (uX h wM (fun f hf=>by simp only [gW]at hf ⊢;rcases hf with h|h|h|h|h<;>simp [h])).swap

section
variable{E:En}
def St.own_map{O' :List OE}(h:St E aK G a w S)(k:dN E.base E.B w S aK->dN E.base E.B w S O'):St E O' G a w S:=⟨h.ext,h.sat,k h.own,h.facts⟩
def St.base_le(h:St E aK G a w S):E.base<=w.heap.size:=h.ext.size
def St.drop{e:OE}(h:St E (e::aK) G a w S):St E aK G a w S:=h.own_map fun h=>h.2.2
def St.fresh(mm:Bool)(r:Rp α)(ak:TypeId)(h:St E aK G a w S):St E (oq mm r ak none 0 []::aK) G a w S:=
 h.own_map fun h=>by refine⟨⟨⟨[],⟨rfl,rfl⟩,rfl,fun b M=>(by cases M)⟩,fun k hk=>?_⟩,fun f _ b M=>?_,h⟩<;>(first|cases hk|cases M)
def CF{e:OE}{b:Nat}{o:Obj}(h:St E (e::aK) G a w S)(M:e.fp b)(ho:w.heap[b]? =some o')(hoo:Od o o')(hn:S b=none):St E aK G a w (S.set b o)/\SH.le S (S.set b o)/\jh (fun k=>k=b) w S w (S.set b o)/\lF w (S.set b o):=by
 have hbase:=h.own.1.2 b M
 have hle:SH.le S (S.set b o):=Fn fun q hq=>(by rw [hn]at hq;cases hq)
 have hsat:lF w (S.set b o):=h.sat.set ho hoo fun q hq=>by rw [hn]at hq;cases hq
 have hext:jh (fun k=>k=b) w S w (S.set b o):=⟨rfl,rfl,rfl,fa _,fa _,fun _ _ _=>rfl,hle,fun k _ hk=>uh _ _ hk⟩
 refine⟨⟨h.ext.step hext fun c hc=>by subst hc;exact hbase,hsat,h.own.2.2.ext hext fun f hf c hc hm=>?_,h.facts.mono hle⟩,hle,hext,hsat⟩
 subst hm
 exact h.own.2.1 f hf c M hc
def tO{α:Type}(r:Rp α)(l:Option Nat)(cap:Nat)(xs:List α):Ty where
 p:=fun S v=>v=bw l cap xs.length/\(tD (f9 r) xs).p S v
 mono:=fun h ⟨I,K⟩=>⟨I,Ty.mono _ h K⟩
def Nw{N:Fr}{G:nt}{r:Rp α}(h:bk N G x (tO r l cap xs)):bk N G x (tV (bw l cap xs.length)):=fun S a hf=>(h S a hf).1
def km{N:Fr}{G:nt}{r:Rp α}(h:bk N G x (tO r l cap xs)):bk N G x (tD (f9 r) xs):=fun S a hf=>(h S a hf).2
def sO{r:Rp α}{w:World}{S:SH}(h:Fi true r ak l cap xs w S):(tD (f9 r) xs).p S (bw l cap xs.length):=by
 obtain⟨cells,I,K,h3⟩:=h
 cases l with
 |none=>
  have V:xs=[]:=vZ I.1
  subst V
  exact Ro
 |some b=>
  obtain⟨cur,g1,g2,g3,g4,g5⟩:=I
  refine rA.2 ⟨_,cap,rfl,g2,g3,.inr ⟨b,0,cells.toArray,ak,(0,0),rfl,h3 b rfl,?_⟩⟩
  have:=rD K
  rw [xM,u0 (by simp [this])]
  exact K
def St.freeze{r:Rp α}(h:St E (ff r ak l cap xs::aK) G a w S):
  ∃S',St E (gO r ak l cap xs::aK) G a w S' :=by
 obtain⟨⟨cells,I,K,h3⟩,hbase⟩:=h.own.1
 cases l with
 |none=>exact⟨S,h.ext,h.sat,⟨⟨⟨cells,I,K,fun b M=>(by cases M)⟩,hbase⟩,h.own.2⟩,h.facts⟩
 |some b=>
  obtain⟨cur,g1,g2,g3,g4,g5⟩:=I
  have hoo:Od (.cells cells.toArray ak (0,0)) (.cells cur ak (0,0)):=by
   refine⟨cur.toList.drop (xs.length*r.sz),?_⟩
   congr 1
   apply Array.ext'
   rw [<-g5,xQ]
  obtain⟨h8,hle,_,_⟩:=CF h rfl g1 hoo (h3 b rfl)
  refine⟨_,h8.ext,h8.sat,⟨⟨⟨cells,⟨cur,g1,g2,g3,g4,g5⟩,wp hle K,fun b' hb' =>?_⟩,hbase⟩,h.own.2.1,h8.own⟩,h8.facts⟩
  have hb2:b=b' :=sI hb'
  subst hb2
  exact qB _ _ _
def St.settle{r:Rp α}(h:St E (oq mm r ak l cap xs::aK) G a w S):
  ∃S',St E aK G a w S' /\(tD (f9 r) xs).p S' (bw l cap xs.length):=by
 cases mm with
 |true=>exact⟨S,h.drop,sO h.own.1.1⟩
 |false=>
  obtain⟨S',I⟩:=h.freeze
  exact⟨S',I.drop,sO I.own.1.1⟩
end

section
variable{E:En}{e:Exit}
def QG{N:Fr}(h:eJ N S a G)(hk:t.p S (a.tmps.getD k undef)):eJ N S a ((k,t)::G):=
 ⟨h.size,h.defers,fun j u hj=>by
  unfold cL at hj
  by_cases M:Nat.beq k j=true
  ·rw [M]at hj
   have:=wQ M
   subst this
   rw [<-show t=u from by simpa using hj];exact hk
  ·rw [Gb]at M
   rw [M]at hj
   exact h.at_ j u hj⟩
def St.cons(h:St E aK G a w S)(hk:t.p S (a.tmps.getD k undef)):St E aK ((k,t)::G) a w S:=⟨h.ext,h.sat,h.own,QG h.facts hk⟩
def St.tipAt{r:Rp α}{n:Nat}(h:St E (gO r ak l cap xs::aK) G a w S)(hk:cL G k=some (tV (bw l cap n)))(hn:n=xs.length):
  St E (gO r ak l cap xs::aK) ((k,tO r l cap xs)::G) a w S:=by
 subst hn
 have hv:a.tmps.getD k undef=bw l cap xs.length:=h.facts.at_ k _ hk
 exact h.cons ⟨hv,by rw [hv];exact sO h.own.1.1⟩
def bQ(mm:Bool)(r:Rp α)(ak:TypeId)(h:RG E ops aJ rest (oq mm r ak none 0 []::aK) G):RG E ops aJ rest aK G:=fun a w S st=>h a w S (st.fresh mm r ak)
def ZT{f:OE}(h:RG E ops aJ rest aK G):RG E ops aJ rest (f::aK) G:=fun a w S st=>h a w S st.drop
def aG{f:OE}(h:AT E aJ e aK G):AT E aJ e (f::aK) G:=fun a w S st=>h a w S st.drop
def bu{x y:OE}(h:RG E ops aJ rest (y::x::aK) G):RG E ops aJ rest (x::y::aK) G:=fun a w S st=>h a w S (st.own_map dN.swap)
def bK{x y:OE}(h:AT E aJ e (y::x::aK) G):AT E aJ e (x::y::aK) G:=fun a w S st=>h a w S (st.own_map dN.swap)
def gk{x y z:OE}(h:RG E ops aJ rest (z::x::y::aK) G):RG E ops aJ rest (x::y::z::aK) G:=fun a w S st=>h a w S (st.own_map ui)
def Ur{x y z:OE}(h:CG E aJ c (z::x::y::aK) G):CG E aJ c (x::y::z::aK) G:=fun a w S st=>h a w S (st.own_map ui)
def aP{x y z:OE}(h:AT E aJ e (z::x::y::aK) G):AT E aJ e (x::y::z::aK) G:=fun a w S st=>h a w S (st.own_map ui)
def oj{x y z:OE}(h:RG E ops aJ rest (u::x::y::z::aK) G):RG E ops aJ rest (x::y::z::u::aK) G:=fun a w S st=>h a w S (st.own_map wM)
def db{x y z:OE}(h:AT E aJ e (u::x::y::z::aK) G):AT E aJ e (x::y::z::u::aK) G:=fun a w S st=>h a w S (st.own_map wM)
def BB{x y z v:OE}(h:RG E ops aJ rest (v::x::y::z::u::aK) G):RG E ops aJ rest (x::y::z::u::v::aK) G:=fun a w S st=>h a w S (st.own_map wL)
def hJ{x y z v:OE}(h:AT E aJ e (v::x::y::z::u::aK) G):AT E aJ e (x::y::z::u::v::aK) G:=fun a w S st=>h a w S (st.own_map wL)
def mI{f:OE}(h:LG E aJ c aK G):LG E aJ c (f::aK) G:=fun a w S st=>h a w S st.drop
def fh{x y:OE}(h:LG E aJ c (y::x::aK) G):LG E aJ c (x::y::aK) G:=fun a w S st=>h a w S (st.own_map dN.swap)
def mR{x y z:OE}(h:LG E aJ c (z::x::y::aK) G):LG E aJ c (x::y::z::aK) G:=fun a w S st=>h a w S (st.own_map ui)
def om{x y z:OE}(h:LG E aJ c (u::x::y::z::aK) G):LG E aJ c (x::y::z::u::aK) G:=fun a w S st=>h a w S (st.own_map wM)
def mQ{x y z v:OE}(h:LG E aJ c (v::x::y::z::u::aK) G):LG E aJ c (x::y::z::u::v::aK) G:=fun a w S st=>h a w S (st.own_map wL)
def gm{r:Rp α}(h:RG E ops aJ rest (gO r ak l cap xs::aK) G):RG E ops aJ rest (ff r ak l cap xs::aK) G:=fun a w _ st=>let⟨S',st'⟩:=st.freeze;h a w S' st'
def dn{r:Rp α}{n:Nat}(k:Nat)(hk:cL G k=some (tV (bw l cap n)))(h:RG E ops aJ rest (gO r ak l cap xs::aK) ((k,tO r l cap xs)::G))(hn:n=xs.length:=by rfl):RG E ops aJ rest (gO r ak l cap xs::aK) G:=fun a w S st=>h a w S (st.tipAt hk hn)
def Us{r:Rp α}(h:CG E aJ c (gO r ak l cap xs::aK) G):CG E aJ c (ff r ak l cap xs::aK) G:=fun a w _ st=>let⟨S',st'⟩:=st.freeze;h a w S' st'
def WU{r:Rp α}{n:Nat}(k:Nat)(hk:cL G k=some (tV (bw l cap n)))(h:CG E aJ c (gO r ak l cap xs::aK) ((k,tO r l cap xs)::G))(hn:n=xs.length:=by rfl):CG E aJ c (gO r ak l cap xs::aK) G:=fun a w S st=>h a w S (st.tipAt hk hn)
def dU{r:Rp α}(h:AT E aJ e (gO r ak l cap xs::aK) G):AT E aJ e (ff r ak l cap xs::aK) G:=fun a w _ st=>let⟨S',st'⟩:=st.freeze;h a w S' st'
def bN{r:Rp α}{n:Nat}(k:Nat)(hk:cL G k=some (tV (bw l cap n)))(h:AT E aJ e (gO r ak l cap xs::aK) ((k,tO r l cap xs)::G))(hn:n=xs.length:=by rfl):AT E aJ e (gO r ak l cap xs::aK) G:=fun a w S st=>h a w S (st.tipAt hk hn)
def aZ{r:Rp α}(hk:cL G k=some (tD (f9 r) xs))(h:xs.length<=maxLen->CG E aJ c aK G):CG E aJ c aK G:=fun a w S st=>by
 obtain⟨_,_,_,I,K,_⟩:=rA.1 (st.facts.at_ k _ hk)
 exact h (BZ I K) a w S st

section
variable{ty:TypeId}
def St.append{r:Rp α}{t ty:TypeId}{sz:Nat}{agg:Bool}(ti:TI E.P ak sz bytes agg z)(hsz:r.sz=sz)(hz:Nat.beq z.length sz=true)(h0:Nat.blt 0 sz=true)(h128:Nat.ble bytes 2048=true)(Y:E.P.underlying t=some (.slice ak))(st:St E (oq mm r ak l cap xs::aK) G a w S)(hsrc:Src E.P r.sz t' v ys.length news w)(hrc:xE r S news ys)(happ:app xs ys=some zs):
  ∃l' cap' w' S',(Builtin.append_ #[t,t'] ty #[bw l cap xs.length,v]).run E.P w= .ok (bw l' cap' zs.length) w' /\St E (oq mm r ak l' cap' zs::aK) G a w' S' :=by
 obtain⟨l',cap',w',S',hr,hext,hsat,hh,hnew⟩:=Au (ty:=ty) ti hsz hz h0 h128 Y st.sat st.own.1 st.base_le hsrc hrc happ
 refine⟨l',cap',w',S',hr,st.ext.step hext fun b M=>st.own.1.2 b M,hsat,⟨hh,fun f hf b M hfb=>?_,st.own.2.2.ext hext fun f hf b M hbl=>st.own.2.1 f hf b hbl M⟩,st.facts.mono hext.keep⟩
 rcases hnew b M with h|h
 ·exact st.own.2.1 f hf b h hfb
 ·have:=f.here (dN.mem st.own.2.2 f hf).1 b hfb
  omega
def St.put{d:Nat}(h:St E aK G a w S)(hd:Nat.blt d E.N.n=true)(hv:t.p S v):St E aK ((d,t)::G) (a.put (some d) v) w S:=⟨h.ext,h.sat,h.own,h.facts.put hd hv⟩
def C4{r:Rp α}{t:TypeId}{sz:Nat}{agg:Bool}{n:Nat}{u:Nat->Option Nat->Ty}(ti:TI E.P ak sz bytes agg z)(hsz:r.sz=sz)(hz:Nat.beq z.length sz=true)(h0:Nat.blt 0 sz=true)(h128:Nat.ble bytes 2048=true)(Y:E.P.underlying t=some (.slice ak))(hd:Nat.blt d E.N.n=true)(V:bk E.N G x (tV (bw l cap n)))(hy: ∀a w S,St E (oq mm r ak l cap xs::aK) G a w S-> ∃news,Src E.P r.sz t' (a.eval y) ys.length news w/\xE r S news ys)(happ:app xs ys=some zs)(hu: ∀l' cap' w0 S,(oq mm r ak l' cap' zs).p w0 S->(u cap' l').p S (bw l' cap' zs.length))(k: ∀l' cap',RG E ops aJ rest (oq mm r ak l' cap' zs::aK) ((d,u cap' l')::G))(hn:n=xs.length):
  RG E ops aJ (⟨some d,.call ⟨.builtin .append,#[x,y],#[t,t']⟩,ty,pos,after,none⟩::rest) (oq mm r ak l cap xs::aK) G:= .of rfl fun a w S st=>by
 subst hn
 have I:a.eval x=bw l cap xs.length:=V S a st.facts
 obtain⟨news,K,h3⟩:=hy a w S st
 obtain⟨l',cap',w',S',hr,st'⟩:=st.append (ty:=ty) ti hsz hz h0 h128 Y K h3 happ
 have hrun:(execOp a.eval ⟨some d,.call ⟨.builtin .append,#[x,y],#[t,t']⟩,ty,pos,after,none⟩).run E.P w= .ok (.value (bw l' cap' zs.length)) w' :=by
  simp [execOp,resolve,invoke,builtin,I,hr]
 refine⟨fun c h=>(by cases h),?_⟩
 rw [hrun]
 exact k l' cap' _ _ S' (st'.put hd (hu l' cap' w' S' st'.own.1.1))
def bW{r:Rp α}{t:TypeId}{sz:Nat}{agg:Bool}{n:Nat}(ti:TI E.P ak sz bytes agg z)(hsz:r.sz=sz)(hz:Nat.beq z.length sz=true)(h0:Nat.blt 0 sz=true)(h128:Nat.ble bytes 2048=true)(Y:E.P.underlying t=some (.slice ak))(ht' :t' =t)(hd:Nat.blt d E.N.n=true)(V:bk E.N G x (tV (bw l cap n)))(hy:bk E.N G y (tD (f9 r) ys))(happ:app xs ys=some zs)(k: ∀l' cap',RG E ops aJ rest (ff r ak l' cap' zs::aK) ((d,tV (bw l' cap' zs.length))::G))(hn:n=xs.length:=by rfl):
  RG E ops aJ (⟨some d,.call ⟨.builtin .append,#[x,y],#[t,t']⟩,ty,pos,after,none⟩::rest) (ff r ak l cap xs::aK) G:=by
 subst ht'
 exact C4 (u:=fun cap' l' =>tV (bw l' cap' zs.length)) ti hsz hz h0 h128 Y hd V (fun a w S st=>Ar Y st.sat (hy S a st.facts)) happ (fun _ _ _ _ _=>rfl) k hn
def IW{r:Rp α}{t:TypeId}{sz:Nat}{agg:Bool}(ti:TI E.P ak sz bytes agg z)(hsz:r.sz=sz)(hz:Nat.beq z.length sz=true)(h0:Nat.blt 0 sz=true)(h128:Nat.ble bytes 2048=true)(Y:E.P.underlying t=some (.slice ak))(ht' :t' =t)(hd:Nat.blt d E.N.n=true)(V:bk E.N G x (tO r l cap xs))(hy:bk E.N G y (tD (f9 r) ys))(happ:app xs ys=some zs)(k: ∀l' cap',RG E ops aJ rest (gO r ak l' cap' zs::aK) ((d,tO r l' cap' zs)::G)):
  RG E ops aJ (⟨some d,.call ⟨.builtin .append,#[x,y],#[t,t']⟩,ty,pos,after,none⟩::rest) (gO r ak l cap xs::aK) G:=by
 subst ht'
 exact C4 (u:=fun cap' l' =>tO r l' cap' zs) ti hsz hz h0 h128 Y hd (Nw V) (fun a w S st=>Ar Y st.sat (hy S a st.facts)) happ (fun _ _ _ _ h=>⟨rfl,sO h⟩) k rfl
end
end

def D1(off:Nat): ∀(cs:List Value) (k:Nat) (pre mid post:List Value),mid.length=cs.length->pre.length=off+k->
  (cs.zipIdx k).foldl (fun(a:Array Value) x=>a.setIfInBounds (off+x.2) x.1) (pre++mid++post).toArray=(pre++cs++post).toArray
 |[],k,pre,mid,post,hm,_=>by
  have:mid=[]:=vZ hm
  subst this;simp
 |c::cs,k,pre,mid,post,hm,hp=>by
  cases mid with
  |nil=>simp at hm
  |cons m mid=>
   simp only [List.zipIdx_cons,List.foldl_cons]
   have I:(pre++(m::mid)++post).toArray.setIfInBounds (off+k) c=((pre++[c])++mid++post).toArray:=by
    rw [<-hp]
    simp
   rw [I,D1 off cs (k+1) (pre++[c]) mid post (by simpa using hm) (by simp;omega)]
   simp
def yT(v:Value)(off:Nat)(pre mid post:List Value)(hm:mid.length=v.cells.size)(hp:pre.length=off):
  v.cells.zipIdx.foldl (fun cs (x:Value×Nat)=>cs.setIfInBounds (off+x.2) x.1) (pre++mid++post).toArray=(pre++v.cells.toList++post).toArray:=by
 have:=D1 off v.cells.toList 0 pre mid post (by simpa using hm) (by simpa using hp)
 rw [<-this,<-Array.foldl_toList]
 simp [Array.toList_zipIdx]
def vL{r:Rp α}{x:α}(h:r.rc S cs x):(r.val cs).cells=cs.toArray:=by
 unfold Rp.val
 cases ha:r.agg with
 |true=>simp [Value.cells]
 |false=>
  have hl:=r.len h
  rw [r.sc ha]at hl
  match cs,hl with
  |[c],_=>
   have:=r.one h c (by simp)
   cases c<;>simp_all [Value.cells,Value.oneCell']
def F1:Nat->List Value->List (Nat×Value)
 |_,[]=>[]
 |k,v::vs=>(k,v)::F1 (k+1) vs
def Ik{α:Type}{r:Rp α}{S:SH}: ∀(ys:List α) (vs:List Value) (k:Nat) (pre zs:List Value),Aa S (ys.map (tD r)) vs->pre.length=k*r.sz->zs.length=ys.length*r.sz->
  ∃cs,xE r S cs ys/\Instr.fill (fun i=>some (i*r.sz,r.sz)) (pre++zs).toArray (F1 k vs)=some (pre++cs).toArray
 |[],[],k,pre,zs,_,_,hz=>by
  have:zs=[]:=vZ (by simpa using hz)
  subst this
  exact⟨[],rfl,by simp [F1,Instr.fill]⟩
 |y::ys,v::vs,k,pre,zs,⟨⟨c,e,hc⟩,K⟩,hp,hz=>by
  have hl:=r.len hc
  have hz' :r.sz<=zs.length:=by rw [hz,io,wO];omega
  have e1:zs=zs.take r.sz++zs.drop r.sz:=(xQ _ _).symm
  have hcells:v.cells=c.toArray:=by rw [e];exact vL hc
  obtain⟨cs,h3,h4⟩:=Ik ys vs (k+1) (pre++c) (zs.drop r.sz) K (by rw [ju,hp,hl,wO];omega) (by rw [GR,hz,io,wO];omega)
  refine⟨c++cs,⟨c,cs,rfl,hc,h3⟩,?_⟩
  have hs:v.cells.size=r.sz:=by rw [hcells];simpa using hl
  have hcond: ¬((v.cells.size≠r.sz)\/(k*r.sz+v.cells.size>(pre++zs).toArray.size)):=by
   simp [hs];omega
  have h5:=yT v (k*r.sz) pre (zs.take r.sz) (zs.drop r.sz) (by simp [hs];omega) hp
  rw [ji,<-e1]at h5
  simp only [F1,Instr.fill]
  rw [aS (by simpa using hcond)]
  rw [h5,hcells]
  simpa using h4
def Cn:Nat->List Operand->List (Nat×Operand)
 |_,[]=>[]
 |k,v::vs=>(k,v)::Cn (k+1) vs
def E7(ρ:Operand->Value): ∀(k:Nat) (xs:List Operand),(Cn k xs).map (fun x=>(x.1,ρ x.2))=F1 k (xs.map ρ)
 |_,[]=>rfl
 |k,x::xs=>by simp [Cn,F1,E7 ρ (k+1) xs]

variable{parts:List (Nat×Operand)}
section
variable{E:En}{ty:TypeId}
def At{P:Program}{r:Rp α}{xs:List Operand}{ρ:Operand->Value}{t:TypeId}{n sz:Nat}{agg:Bool}(Y:P.underlying t=some (.slice ak))(ti:TI P ak sz bytes agg z)(hsz:r.sz=sz)(hn:n=ys.length)(M:Nat.ble (n*sz) 16777216=true)(V:Aa S (ys.map (tD r)) (xs.map ρ))(w:World):
  ∃cs,xE r S cs ys/\(Instr.buildSlice t n ((Cn 0 xs).toArray.map fun x=>(x.1,ρ x.2))).run P w= .ok (.slice (some ⟨w.heap.size,0,none⟩) n n) (w.alloc (.cells cs.toArray ak (0,0))):=by
 subst hsz
 have hb' :=rL M
 obtain⟨zv,hzr,_⟩:=ti.zero w
 obtain⟨cs,hc,hfill⟩:=Ik ys (xs.map ρ) 0 [] ((Array.range (n*r.sz)).map (fun i=>(if n*r.sz=0 then #[]else zv.cells)[i%(if n*r.sz=0 then #[]else zv.cells).size]!)).toList V (by simp) (by simp [hn])
 refine⟨cs,hc,?_⟩
 have hparts:((Cn 0 xs).toArray.map fun x=>(x.1,ρ x.2)).toList=F1 0 (xs.map ρ):=by simp [E7]
 simp only [lU,Array.toArray_toList]at hfill
 have hle: ¬(n*r.sz>2^24):=by omega
 by_cases hn0:n*r.sz=0
 ·simp only [hn0,gx]at hfill
  simp only [Instr.buildSlice,xK,nc Y,zS,ti.sizeOf,Sem.run_ite,hn0,gx,Sem.run_pure,hparts,hfill]
  simp [newRow]
 ·simp only [hn0,fU]at hfill
  simp only [Instr.buildSlice,xK,nc Y,zS,ti.sizeOf,Sem.run_ite,hle,fU,hn0,Sem.run_pure,hzr,hparts,hfill]
  simp [newRow]
def aI{r:Rp α}{xs:List Operand}{t:TypeId}{n sz:Nat}{agg:Bool}(Y:E.P.underlying t=some (.slice ak))(ti:TI E.P ak sz bytes agg z)(hsz:r.sz=sz)(h0:Nat.blt 0 sz=true)(hp:parts=Cn 0 xs)(hn:n=ys.length)(M:Nat.ble (n*sz) 16777216=true)(V:kp E.N G xs (ys.map (tD r))):cz E aK G ⟨dst,.buildSlice t n parts.toArray,ty,pos,after,g⟩ (tD (f9 r) ys):=
 .of_run fun a w S hs _ hf=>by
  obtain⟨cs,hc,hr⟩:=At Y ti hsz hn M (V.tys hf) w
  subst hsz
  have hb' :=rL M
  have h0' :0<r.sz:=by simpa [wT] using h0
  have hnle:n<=n*r.sz:=Nat.le_mul_of_pos_right n h0'
  obtain⟨he,hs'⟩:=tk (w:=w) (.cells cs.toArray ak (0,0)) hs
  have hcl:=rD hc
  refine⟨.slice (some ⟨w.heap.size,0,none⟩) n n,_,_,?_,he,hs',rA.2 ⟨_,n,by rw [hn],by omega,by simp only [maxLen];omega,.inr ⟨w.heap.size,0,cs.toArray,ak,(0,0),rfl,by simp [SH.set],?_⟩⟩⟩
  ·subst hp
   simp only [execOp,xK,hr,zS,Sem.run_pure]
  ·have:xE r (S.set w.heap.size (.cells cs.toArray ak (0,0))) cs ys:=wp he.keep hc
   simpa [<-hcl] using this
def Qx{r:Rp α}{v:α}(V:bk E.N G x (tD r v)):cz E aK G ⟨dst,.box ak x,ty,pos,after,g⟩ (bF r v):=
 .of_run fun a w S hs _ hf=>by
  obtain⟨cs,hv,hc⟩:=V S a hf
  obtain⟨he,hs'⟩:=tk (w:=w) (.cells cs.toArray ak (0,0)) hs
  refine⟨.pointer (some ⟨w.heap.size,0,none⟩),_,_,?_,he,hs',w.heap.size,0,cs.toArray,ak,(0,0),rfl,by simp [SH.set],?_⟩
  ·simp [execOp,Instr.box,newVar,newRow,hv,vL hc]
  ·have:=r.mono he.keep hc
   have hl:=r.len hc
   simpa [<-hl] using this
end

def nK(c:Bool)(t:Ty):Ty where
 p:=fun S v=>if c=true then t.p S v else v=undef
 mono:=fun h k=>by
  split
  ·rename_i hc;rw [br hc]at k;exact t.mono h k
  ·rename_i hc;rw [aS hc]at k;exact k
variable{gs:Nat}{pol:Bool}
section
variable{E:En}
def bG{N:Fr}{c:Bool}(h:cL G k=some (nK c t))(hc:c=true):bk N G (.tmp k) t:=fun _ _ hF=>by
 have K:if c=true then t.p _ (Act.eval _ (.tmp k))else _=undef:=hF.at_ k _ h
 rw [br hc]at K;exact K
def xi(c b:Bool):Ty:=nK c (tD rB b)
def xh(h:cL G k=some (tD rB b)):bk E.N G (.tmp k) (xi true b):=fun _ _ hF=>by
 have K:(tD rB b).p _ (Act.eval _ (.tmp k)):=hF.at_ k _ h
 simp only [xi,nK,gx]
 exact K
def Br{c:Bool}(h:cL G k=some (nK c (tD rB b))):bk E.N G (.tmp k) (xi c b):=fun _ _ hF=>hF.at_ k _ h
def G2{c:Bool}(H:o.guard=some (j,pol))(hj:(ops[j]?).bind (·.dst)=some gs)(hn:gs<a.tmps.size)(hv:(xi c b).p S (a.tmps.getD gs undef)):
  Region.wanted o (yielded ops a.tmps)=(c&&(b==pol)):=by
 have hget:a.tmps[gs]? =some (a.tmps.getD gs undef):=by
  rw [Nb,Array.getElem?_eq_getElem hn];rfl
 unfold Region.wanted
 rw [H]
 simp only [yielded,hj,bt,hget]
 cases c with
 |true=>
  have:a.tmps.getD gs undef= .bool b:=ko.1 (by simpa [xi,nK] using hv)
  rw [this]
  cases b<;>cases pol<;>rfl
 |false=>
  have:a.tmps.getD gs undef=undef:=by simpa [xi,nK] using hv
  rw [this]
  cases pol<;>rfl
def MS{c:Bool}{op:Op}{ty:TypeId}(hj:(ops[j]?).bind (·.dst)=some gs)(hgs:Nat.blt gs E.N.n=true)(H:bk E.N G (.tmp gs) (xi c b))(hd:Nat.blt d E.N.n=true)(h:(c&&(b==pol))=true->cz E aK G ⟨some d,op,ty,pos,after,some (j,pol)⟩ t)(k:RG E ops aJ rest aK ((d,nK (c&&(b==pol)) t)::G)):
  RG E ops aJ (⟨some d,op,ty,pos,after,some (j,pol)⟩::rest) aK G:=fun a w S st=>by
 have hgs' :gs<a.tmps.size:=by rw [st.facts.size];simpa [wT] using hgs
 have hw:=G2 (o:=⟨some d,op,ty,pos,after,some (j,pol)⟩) rfl hj hgs' (H S a st.facts)
 refine wpListIn_step fun h2 hK=>?_
 rw [hw]
 by_cases hc:(c&&(b==pol))=true
 ·rw [br hc]
  refine vp (fun a' w' ⟨v,S',ha,he,hs,hv⟩=>?_) (h hc a w S st.sat st.own st.facts)
  subst ha
  refine hK _ _ (k _ _ _ (st.step he hs hd ?_))
  simpa only [nK,hc,gx] using hv
 ·rw [aS hc]
  refine⟨fun _ _=>trivial,hK _ _ (k _ _ S (st.step (jh.refl _ _ _) st.sat hd ?_))⟩
  show if _ then _ else _
  rw [aS hc]
end

structure Nd where
 slot:Nat
 ty:Ty
 src:Option Nat
def bL(E:En)(aK:List OE)(ops:Array Oper)(need:nt)(o:Oper)(t:Ty):Prop:=
 ∀a w S,lF w S->dN E.base E.B w S aK->eJ E.N S a need->
  if Region.wanted o (yielded ops a.tmps)then Oc E.P o a w (fun a' w' => ∃v S',a' =a.put o.dst v/\jh s0 w S w' S' /\lF w' S' /\t.p S' v)else t.p S undef
def m5:List Nd->nt
 |[]=>[]
 |n::l=>(n.slot,n.ty)::m5 l
def Ri(o:Oper)(j:Nat):Bool:=o.after.toList.any fun e=>Nat.beq e.on j&&Region.binds .any e
def va(l:List Oper)(o:Oper)(i:Nat)(n:Nd):Bool:=
 match n.src with
 |some j=>(match l[j]? with|some p=>(match p.dst with|some d=>Nat.beq d n.slot|none=>false)|none=>false)&&Ri o j
 |none=>l.all fun p=>(match p.dst with|some d=> !(Nat.beq d n.slot)|none=>true)||Ri p i
def BX(G:nt)(ts:List Ty)(n:Nd):Prop:=
 match n.src with
 |some j=>ts[j]? =some n.ty
 |none=>cL G n.slot=some n.ty
def zO(G:nt)(ts:List Ty):List Nd->Prop
 |[]=>True
 |n::l=>BX G ts n/\zO G ts l
def ad4(o:Oper):Nat:=o.dst.getD 0
def jq(i:Nat)(o:Oper):Bool:=o.after.toList.all fun e=> !(Region.binds .any e)||Nat.blt e.on i
def DR(E:En)(aK:List OE)(G:nt)(l:List Oper)(ts:List Ty):Nat->List Oper->Prop
 |_,[]=>True
 |i,o::rest=>(∃(needs:List Nd) (t:Ty),ts[i]? =some t/\zO G ts needs/\(needs.all (va l o i))=true/\jq i o=true/\bL E aK l.toArray (m5 needs) o t)/\DR E aK G l ts (i+1) rest
def He(N:Nat):List Nat->List Oper->Bool
 |_,[]=>true
 |seen,o::rest=>(match o.dst with|some d=>Nat.blt d N&& !(seen.any (Nat.beq d))&&He N (d::seen) rest|none=>false)
structure DJ(E:En)(aK:List OE)(G:nt)(l:List Oper)(ts:List Ty)(done:Array Bool)(a:Act)(w:World)(S:SH):Prop where
 ext:jh E.B E.w0 E.S0 w S
 sat:lF w S
 own:dN E.base E.B w S aK
 size:a.tmps.size=E.N.n
 defers:a.defers=E.N.ds
 dsz:done.size=l.length
 down: ∀j o,l[j]? =some o->done.getD j false=true-> ∀e∈o.after,Region.binds .any e=true->done.getD e.on false=true
 old: ∀k t,cL G k=some t->(∀j o,l[j]? =some o->done.getD j false=true->o.dst≠some k)->t.p S (a.tmps.getD k undef)
 new: ∀j o d t,l[j]? =some o->done.getD j false=true->o.dst=some d->ts[j]? =some t->t.p S (a.tmps.getD d undef)
def Qp:List Oper->List Ty->nt->nt
 |o::l,t::ts,G=>(ad4 o,t)::Qp l ts G
 |_,_,G=>G
def RB(hd:d<a.tmps.size):(a.put (some d) v).tmps.getD k undef=if d=k then v else a.tmps.getD k undef:=by
 by_cases h:d=k
 ·subst h;simp [Act.put,Nb,hd]
 ·simp [Act.put,Nb,h]
def xy(done:Array Bool):Nat:=done.toList.countP (· ==false)
variable{done:Array Bool}
def G7(h:done.getD i true=false):xy (done.setIfInBounds i true)+1=xy done:=by
 have hlt:i<done.size:=by
  rcases uy i done.size with h' |h'
  ·exact h'
  ·simp [Array.getElem?_eq_none h']at h
 have hv:done[i]=false:=by simpa [hlt] using h
 unfold xy
 rw [Array.toList_setIfInBounds,List.countP_set (by simpa using hlt)]
 have K:(done.toList[i]'(by simpa using hlt))=false:=by simpa using hv
 have hpos:0<done.toList.countP (· ==false):=List.countP_pos_iff.2 ⟨done.toList[i]'(by simpa using hlt),Dk _,by rw [K];rfl⟩
 rw [K,br (show(false==false)=true from rfl),aS (show¬((true==false)=true) by decide)]
 omega
variable{need:nt}
section
variable{E:En}
def ai(H:o.guard=none)(h:cz E aK need o t):bL E aK ops need o t:=fun a w S hs ho hf=>by
 have:Region.wanted o (yielded ops a.tmps)=true:=by unfold Region.wanted;rw [H]
 rw [this,br rfl]
 exact h a w S hs ho hf
def xq{l:List Oper}{c:Bool}(H:o.guard=some (j,pol))(hj:((l.toArray)[j]?).bind (·.dst)=some gs)(hgs:Nat.blt gs E.N.n=true)(M:bk E.N need (.tmp gs) (xi c b))(h:(c&&(b==pol))=true->cz E aK need o t):bL E aK l.toArray need o (nK (c&&(b==pol)) t):=fun a w S hs ho hf=>by
 have hw:=G2 (ops:=l.toArray) H hj (by rw [hf.size];simpa [wT] using hgs) (M S a hf)
 rw [hw]
 by_cases hc:(c&&(b==pol))=true
 ·rw [br hc]
  refine qI (fun a' w' ⟨v,S',ha,he,hs,hv⟩=>⟨v,S',ha,he,hs,?_⟩) (h hc a w S hs ho hf)
  show if _ then _ else _
  rw [br hc];exact hv
 ·rw [aS hc]
  show if _ then _ else _
  rw [aS hc]
end
variable{α0 α1 α2 α3:Type}{Gf:α0->α1->α2->α3->nt}{Of:α0->α1->α2->α3->List OE}{α4 α5 α6:Type}
section
variable{E:En}
def Uu{id:Nat}{aF:Prop}{Of:List OE}{Gf:nt}(hK:aF->AT E aJ .normal (Of) (Gf))(h:(aF->AT E aJ .normal (Of) (Gf))->CG E (Exit.inBlock id aJ) c aK G):CG E aJ (.block id c) aK G:=am (h hK)
def yF{x y:Code}{aF:Prop}{Of:List OE}{Gf:nt}(hK:aF->CG E aJ y (Of) (Gf))
  (h:(aF->AT E (Exit.then (y.wpIn (fw E.r) 0 E.P aJ) aJ) .normal (Of) (Gf))->CG E (Exit.then (y.wpIn (fw E.r) 0 E.P aJ) aJ) x aK G):CG E aJ (.seq x y) aK G:=aA (h (fun hz=>hK hz))
def zB{aF:Nat->α0->Prop}{Of:α0->List OE}{Gf:α0->nt}(h0: ∀x0,aF 0 x0->False)(h: ∀n,(∀x0,aF n x0->LG E aJ c (Of x0) (Gf x0))-> ∀x0,aF (n+1) x0->LG E aJ c (Of x0) (Gf x0)): ∀n,∀x0,aF n x0->LG E aJ c (Of x0) (Gf x0)
 |0=>fun x0 hz=>(h0 x0 hz).elim
 |n+1=>h n (zB h0 h n)
def eI{aF:List β->α0->Prop}{Of:List β->α0->List OE}{Gf:List β->α0->nt}(h0: ∀x0,aF [] x0->LG E aJ c (Of [] x0) (Gf [] x0))(h: ∀b l,(∀x0,aF l x0->LG E aJ c (Of l x0) (Gf l x0))-> ∀x0,aF (b::l) x0->LG E aJ c (Of (b::l) x0) (Gf (b::l) x0)): ∀l,∀x0,aF l x0->LG E aJ c (Of l x0) (Gf l x0)
 |[]=>h0
 |b::l=>h b l (eI h0 h l)
def Tb{aF:Nat->α0->Prop}{Of:Nat->α0->List OE}{Gf:Nat->α0->nt}(h0: ∀x0,aF 0 x0->LG E aJ c (Of 0 x0) (Gf 0 x0))(h: ∀n,(∀x0,aF n x0->LG E aJ c (Of n x0) (Gf n x0))-> ∀x0,aF (n+1) x0->LG E aJ c (Of (n+1) x0) (Gf (n+1) x0)): ∀n,∀x0,aF n x0->LG E aJ c (Of n x0) (Gf n x0)
 |0=>h0
 |n+1=>h n (Tb h0 h n)
def K0{id:Nat}{aF:α0->Prop}{Of:α0->List OE}{Gf:α0->nt}(hK: ∀x0,aF x0->AT E aJ .normal (Of x0) (Gf x0))(h:(∀x0,aF x0->AT E aJ .normal (Of x0) (Gf x0))->CG E (Exit.inBlock id aJ) c aK G):CG E aJ (.block id c) aK G:=am (h hK)
def fi{x y:Code}{aF:α0->Prop}{Of:α0->List OE}{Gf:α0->nt}(hK: ∀x0,aF x0->CG E aJ y (Of x0) (Gf x0))(h:(∀x0,aF x0->AT E (Exit.then (y.wpIn (fw E.r) 0 E.P aJ) aJ) .normal (Of x0) (Gf x0))->CG E (Exit.then (y.wpIn (fw E.r) 0 E.P aJ) aJ) x aK G):CG E aJ (.seq x y) aK G:=aA (h (fun x0=>fun hz=>hK x0 hz))
def GO{aF:Nat->α0->α1->Prop}{Of:α0->α1->List OE}{Gf:α0->α1->nt}(h0: ∀x0 x1,aF 0 x0 x1->False)(h: ∀n,(∀x0 x1,aF n x0 x1->LG E aJ c (Of x0 x1) (Gf x0 x1))-> ∀x0 x1,aF (n+1) x0 x1->LG E aJ c (Of x0 x1) (Gf x0 x1)): ∀n,∀x0 x1,aF n x0 x1->LG E aJ c (Of x0 x1) (Gf x0 x1)
 |0=>fun x0 x1 hz=>(h0 x0 x1 hz).elim
 |n+1=>h n (GO h0 h n)
def ol{aF:List β->α0->α1->Prop}{Of:List β->α0->α1->List OE}{Gf:List β->α0->α1->nt}(h0: ∀x0 x1,aF [] x0 x1->LG E aJ c (Of [] x0 x1) (Gf [] x0 x1))(h: ∀b l,(∀x0 x1,aF l x0 x1->LG E aJ c (Of l x0 x1) (Gf l x0 x1))-> ∀x0 x1,aF (b::l) x0 x1->LG E aJ c (Of (b::l) x0 x1) (Gf (b::l) x0 x1)): ∀l,∀x0 x1,aF l x0 x1->LG E aJ c (Of l x0 x1) (Gf l x0 x1)
 |[]=>h0
 |b::l=>h b l (ol h0 h l)
def Ta{aF:Nat->α0->α1->Prop}{Of:Nat->α0->α1->List OE}{Gf:Nat->α0->α1->nt}(h0: ∀x0 x1,aF 0 x0 x1->LG E aJ c (Of 0 x0 x1) (Gf 0 x0 x1))(h: ∀n,(∀x0 x1,aF n x0 x1->LG E aJ c (Of n x0 x1) (Gf n x0 x1))-> ∀x0 x1,aF (n+1) x0 x1->LG E aJ c (Of (n+1) x0 x1) (Gf (n+1) x0 x1)): ∀n,∀x0 x1,aF n x0 x1->LG E aJ c (Of n x0 x1) (Gf n x0 x1)
 |0=>h0
 |n+1=>h n (Ta h0 h n)
def Fs{x y:Code}{aF:α0->α1->Prop}{Of:α0->α1->List OE}{Gf:α0->α1->nt}(hK: ∀x0 x1,aF x0 x1->CG E aJ y (Of x0 x1) (Gf x0 x1))(h:(∀x0 x1,aF x0 x1->AT E (Exit.then (y.wpIn (fw E.r) 0 E.P aJ) aJ) .normal (Of x0 x1) (Gf x0 x1))->CG E (Exit.then (y.wpIn (fw E.r) 0 E.P aJ) aJ) x aK G):CG E aJ (.seq x y) aK G:=aA (h (fun x0 x1=>fun hz=>hK x0 x1 hz))
def Tc{aF:Nat->α0->α1->α2->Prop}{Of:α0->α1->α2->List OE}{Gf:α0->α1->α2->nt}(h0: ∀x0 x1 x2,aF 0 x0 x1 x2->False)(h: ∀n,(∀x0 x1 x2,aF n x0 x1 x2->LG E aJ c (Of x0 x1 x2) (Gf x0 x1 x2))-> ∀x0 x1 x2,aF (n+1) x0 x1 x2->LG E aJ c (Of x0 x1 x2) (Gf x0 x1 x2)): ∀n,∀x0 x1 x2,aF n x0 x1 x2->LG E aJ c (Of x0 x1 x2) (Gf x0 x1 x2)
 |0=>fun x0 x1 x2 hz=>(h0 x0 x1 x2 hz).elim
 |n+1=>h n (Tc h0 h n)
def yC{aF:List β->α0->α1->α2->Prop}{Of:List β->α0->α1->α2->List OE}{Gf:List β->α0->α1->α2->nt}(h0: ∀x0 x1 x2,aF [] x0 x1 x2->LG E aJ c (Of [] x0 x1 x2) (Gf [] x0 x1 x2))(h: ∀b l,(∀x0 x1 x2,aF l x0 x1 x2->LG E aJ c (Of l x0 x1 x2) (Gf l x0 x1 x2))-> ∀x0 x1 x2,aF (b::l) x0 x1 x2->LG E aJ c (Of (b::l) x0 x1 x2) (Gf (b::l) x0 x1 x2)): ∀l,∀x0 x1 x2,aF l x0 x1 x2->LG E aJ c (Of l x0 x1 x2) (Gf l x0 x1 x2)
 |[]=>h0
 |b::l=>h b l (yC h0 h l)
def Ez{aF:Nat->α0->α1->α2->Prop}{Of:Nat->α0->α1->α2->List OE}{Gf:Nat->α0->α1->α2->nt}(h0: ∀x0 x1 x2,aF 0 x0 x1 x2->LG E aJ c (Of 0 x0 x1 x2) (Gf 0 x0 x1 x2))(h: ∀n,(∀x0 x1 x2,aF n x0 x1 x2->LG E aJ c (Of n x0 x1 x2) (Gf n x0 x1 x2))-> ∀x0 x1 x2,aF (n+1) x0 x1 x2->LG E aJ c (Of (n+1) x0 x1 x2) (Gf (n+1) x0 x1 x2)): ∀n,∀x0 x1 x2,aF n x0 x1 x2->LG E aJ c (Of n x0 x1 x2) (Gf n x0 x1 x2)
 |0=>h0
 |n+1=>h n (Ez h0 h n)
def vY{x y:Code}{aF:α0->α1->α2->Prop}{Of:α0->α1->α2->List OE}{Gf:α0->α1->α2->nt}(hK: ∀x0 x1 x2,aF x0 x1 x2->CG E aJ y (Of x0 x1 x2) (Gf x0 x1 x2))(h:(∀x0 x1 x2,aF x0 x1 x2->AT E (Exit.then (y.wpIn (fw E.r) 0 E.P aJ) aJ) .normal (Of x0 x1 x2) (Gf x0 x1 x2))->CG E (Exit.then (y.wpIn (fw E.r) 0 E.P aJ) aJ) x aK G):CG E aJ (.seq x y) aK G:=aA (h (fun x0 x1 x2=>fun hz=>hK x0 x1 x2 hz))
def zA{aF:Nat->α0->α1->α2->α3->Prop}(h0: ∀x0 x1 x2 x3,aF 0 x0 x1 x2 x3->False)(h: ∀n,(∀x0 x1 x2 x3,aF n x0 x1 x2 x3->LG E aJ c (Of x0 x1 x2 x3) (Gf x0 x1 x2 x3))-> ∀x0 x1 x2 x3,aF (n+1) x0 x1 x2 x3->LG E aJ c (Of x0 x1 x2 x3) (Gf x0 x1 x2 x3)): ∀n,∀x0 x1 x2 x3,aF n x0 x1 x2 x3->LG E aJ c (Of x0 x1 x2 x3) (Gf x0 x1 x2 x3)
 |0=>fun x0 x1 x2 x3 hz=>(h0 x0 x1 x2 x3 hz).elim
 |n+1=>h n (zA h0 h n)
def iR{aF:List β->α0->α1->α2->α3->Prop}{Of:List β->α0->α1->α2->α3->List OE}{Gf:List β->α0->α1->α2->α3->nt}(h0: ∀x0 x1 x2 x3,aF [] x0 x1 x2 x3->LG E aJ c (Of [] x0 x1 x2 x3) (Gf [] x0 x1 x2 x3))(h: ∀b l,(∀x0 x1 x2 x3,aF l x0 x1 x2 x3->LG E aJ c (Of l x0 x1 x2 x3) (Gf l x0 x1 x2 x3))-> ∀x0 x1 x2 x3,aF (b::l) x0 x1 x2 x3->LG E aJ c (Of (b::l) x0 x1 x2 x3) (Gf (b::l) x0 x1 x2 x3)): ∀l,∀x0 x1 x2 x3,aF l x0 x1 x2 x3->LG E aJ c (Of l x0 x1 x2 x3) (Gf l x0 x1 x2 x3)
 |[]=>h0
 |b::l=>h b l (iR h0 h l)
def KZ{id:Nat}{aF:α0->α1->α2->α3->Prop}(hK: ∀x0 x1 x2 x3,aF x0 x1 x2 x3->AT E aJ .normal (Of x0 x1 x2 x3) (Gf x0 x1 x2 x3))(h:(∀x0 x1 x2 x3,aF x0 x1 x2 x3->AT E aJ .normal (Of x0 x1 x2 x3) (Gf x0 x1 x2 x3))->CG E (Exit.inBlock id aJ) c aK G):CG E aJ (.block id c) aK G:=am (h hK)
def Up{x y:Code}{aF:α0->α1->α2->α3->Prop}(hK: ∀x0 x1 x2 x3,aF x0 x1 x2 x3->CG E aJ y (Of x0 x1 x2 x3) (Gf x0 x1 x2 x3))(h:(∀x0 x1 x2 x3,aF x0 x1 x2 x3->AT E (Exit.then (y.wpIn (fw E.r) 0 E.P aJ) aJ) .normal (Of x0 x1 x2 x3) (Gf x0 x1 x2 x3))->CG E (Exit.then (y.wpIn (fw E.r) 0 E.P aJ) aJ) x aK G):CG E aJ (.seq x y) aK G:=aA (h (fun x0 x1 x2 x3=>fun hz=>hK x0 x1 x2 x3 hz))
def MW{aF:Nat->α0->α1->α2->α3->α4->Prop}{Of:α0->α1->α2->α3->α4->List OE}{Gf:α0->α1->α2->α3->α4->nt}(h0: ∀x0 x1 x2 x3 x4,aF 0 x0 x1 x2 x3 x4->False)(h: ∀n,(∀x0 x1 x2 x3 x4,aF n x0 x1 x2 x3 x4->LG E aJ c (Of x0 x1 x2 x3 x4) (Gf x0 x1 x2 x3 x4))-> ∀x0 x1 x2 x3 x4,aF (n+1) x0 x1 x2 x3 x4->LG E aJ c (Of x0 x1 x2 x3 x4) (Gf x0 x1 x2 x3 x4)): ∀n,∀x0 x1 x2 x3 x4,aF n x0 x1 x2 x3 x4->LG E aJ c (Of x0 x1 x2 x3 x4) (Gf x0 x1 x2 x3 x4)
 |0=>fun x0 x1 x2 x3 x4 hz=>(h0 x0 x1 x2 x3 x4 hz).elim
 |n+1=>h n (MW h0 h n)
def lQ{aF:List β->α0->α1->α2->α3->α4->Prop}{Of:List β->α0->α1->α2->α3->α4->List OE}{Gf:List β->α0->α1->α2->α3->α4->nt}(h0: ∀x0 x1 x2 x3 x4,aF [] x0 x1 x2 x3 x4->LG E aJ c (Of [] x0 x1 x2 x3 x4) (Gf [] x0 x1 x2 x3 x4))(h: ∀b l,(∀x0 x1 x2 x3 x4,aF l x0 x1 x2 x3 x4->LG E aJ c (Of l x0 x1 x2 x3 x4) (Gf l x0 x1 x2 x3 x4))-> ∀x0 x1 x2 x3 x4,aF (b::l) x0 x1 x2 x3 x4->LG E aJ c (Of (b::l) x0 x1 x2 x3 x4) (Gf (b::l) x0 x1 x2 x3 x4)): ∀l,∀x0 x1 x2 x3 x4,aF l x0 x1 x2 x3 x4->LG E aJ c (Of l x0 x1 x2 x3 x4) (Gf l x0 x1 x2 x3 x4)
 |[]=>h0
 |b::l=>h b l (lQ h0 h l)
def Ut{id:Nat}{aF:α0->α1->α2->α3->α4->Prop}{Of:α0->α1->α2->α3->α4->List OE}{Gf:α0->α1->α2->α3->α4->nt}(hK: ∀x0 x1 x2 x3 x4,aF x0 x1 x2 x3 x4->AT E aJ .normal (Of x0 x1 x2 x3 x4) (Gf x0 x1 x2 x3 x4))(h:(∀x0 x1 x2 x3 x4,aF x0 x1 x2 x3 x4->AT E aJ .normal (Of x0 x1 x2 x3 x4) (Gf x0 x1 x2 x3 x4))->CG E (Exit.inBlock id aJ) c aK G):CG E aJ (.block id c) aK G:=am (h hK)
def yB{aF:List β->α0->α1->α2->α3->α4->α5->Prop}{Of:List β->α0->α1->α2->α3->α4->α5->List OE}{Gf:List β->α0->α1->α2->α3->α4->α5->nt}(h0: ∀x0 x1 x2 x3 x4 x5,aF [] x0 x1 x2 x3 x4 x5->LG E aJ c (Of [] x0 x1 x2 x3 x4 x5) (Gf [] x0 x1 x2 x3 x4 x5))(h: ∀b l,(∀x0 x1 x2 x3 x4 x5,aF l x0 x1 x2 x3 x4 x5->LG E aJ c (Of l x0 x1 x2 x3 x4 x5) (Gf l x0 x1 x2 x3 x4 x5))-> ∀x0 x1 x2 x3 x4 x5,aF (b::l) x0 x1 x2 x3 x4 x5->LG E aJ c (Of (b::l) x0 x1 x2 x3 x4 x5) (Gf (b::l) x0 x1 x2 x3 x4 x5)): ∀l,∀x0 x1 x2 x3 x4 x5,aF l x0 x1 x2 x3 x4 x5->LG E aJ c (Of l x0 x1 x2 x3 x4 x5) (Gf l x0 x1 x2 x3 x4 x5)
 |[]=>h0
 |b::l=>h b l (yB h0 h l)
def Uo{x y:Code}{aF:α0->α1->α2->α3->α4->α5->Prop}{Of:α0->α1->α2->α3->α4->α5->List OE}{Gf:α0->α1->α2->α3->α4->α5->nt}(hK: ∀x0 x1 x2 x3 x4 x5,aF x0 x1 x2 x3 x4 x5->CG E aJ y (Of x0 x1 x2 x3 x4 x5) (Gf x0 x1 x2 x3 x4 x5))(h:(∀x0 x1 x2 x3 x4 x5,aF x0 x1 x2 x3 x4 x5->AT E (Exit.then (y.wpIn (fw E.r) 0 E.P aJ) aJ) .normal (Of x0 x1 x2 x3 x4 x5) (Gf x0 x1 x2 x3 x4 x5))->CG E (Exit.then (y.wpIn (fw E.r) 0 E.P aJ) aJ) x aK G):CG E aJ (.seq x y) aK G:=aA (h (fun x0 x1 x2 x3 x4 x5=>fun hz=>hK x0 x1 x2 x3 x4 x5 hz))
def Pq{aF:List β->α0->α1->α2->α3->α4->α5->α6->Prop}{Of:List β->α0->α1->α2->α3->α4->α5->α6->List OE}{Gf:List β->α0->α1->α2->α3->α4->α5->α6->nt}(h0: ∀x0 x1 x2 x3 x4 x5 x6,aF [] x0 x1 x2 x3 x4 x5 x6->LG E aJ c (Of [] x0 x1 x2 x3 x4 x5 x6) (Gf [] x0 x1 x2 x3 x4 x5 x6))(h: ∀b l,(∀x0 x1 x2 x3 x4 x5 x6,aF l x0 x1 x2 x3 x4 x5 x6->LG E aJ c (Of l x0 x1 x2 x3 x4 x5 x6) (Gf l x0 x1 x2 x3 x4 x5 x6))-> ∀x0 x1 x2 x3 x4 x5 x6,aF (b::l) x0 x1 x2 x3 x4 x5 x6->LG E aJ c (Of (b::l) x0 x1 x2 x3 x4 x5 x6) (Gf (b::l) x0 x1 x2 x3 x4 x5 x6)): ∀l,∀x0 x1 x2 x3 x4 x5 x6,aF l x0 x1 x2 x3 x4 x5 x6->LG E aJ c (Of l x0 x1 x2 x3 x4 x5 x6) (Gf l x0 x1 x2 x3 x4 x5 x6)
 |[]=>h0
 |b::l=>h b l (Pq h0 h l)
def Un{x y:Code}{aF:α0->α1->α2->α3->α4->α5->α6->Prop}{Of:α0->α1->α2->α3->α4->α5->α6->List OE}{Gf:α0->α1->α2->α3->α4->α5->α6->nt}(hK: ∀x0 x1 x2 x3 x4 x5 x6,aF x0 x1 x2 x3 x4 x5 x6->CG E aJ y (Of x0 x1 x2 x3 x4 x5 x6) (Gf x0 x1 x2 x3 x4 x5 x6))(h:(∀x0 x1 x2 x3 x4 x5 x6,aF x0 x1 x2 x3 x4 x5 x6->AT E (Exit.then (y.wpIn (fw E.r) 0 E.P aJ) aJ) .normal (Of x0 x1 x2 x3 x4 x5 x6) (Gf x0 x1 x2 x3 x4 x5 x6))->CG E (Exit.then (y.wpIn (fw E.r) 0 E.P aJ) aJ) x aK G):CG E aJ (.seq x y) aK G:=aA (h (fun x0 x1 x2 x3 x4 x5 x6=>fun hz=>hK x0 x1 x2 x3 x4 x5 x6 hz))
def Pp{α7:Type}{aF:List β->α0->α1->α2->α3->α4->α5->α6->α7->Prop}{Of:List β->α0->α1->α2->α3->α4->α5->α6->α7->List OE}{Gf:List β->α0->α1->α2->α3->α4->α5->α6->α7->nt}(h0: ∀x0 x1 x2 x3 x4 x5 x6 x7,aF [] x0 x1 x2 x3 x4 x5 x6 x7->LG E aJ c (Of [] x0 x1 x2 x3 x4 x5 x6 x7) (Gf [] x0 x1 x2 x3 x4 x5 x6 x7))(h: ∀b l,(∀x0 x1 x2 x3 x4 x5 x6 x7,aF l x0 x1 x2 x3 x4 x5 x6 x7->LG E aJ c (Of l x0 x1 x2 x3 x4 x5 x6 x7) (Gf l x0 x1 x2 x3 x4 x5 x6 x7))-> ∀x0 x1 x2 x3 x4 x5 x6 x7,aF (b::l) x0 x1 x2 x3 x4 x5 x6 x7->LG E aJ c (Of (b::l) x0 x1 x2 x3 x4 x5 x6 x7) (Gf (b::l) x0 x1 x2 x3 x4 x5 x6 x7)): ∀l,∀x0 x1 x2 x3 x4 x5 x6 x7,aF l x0 x1 x2 x3 x4 x5 x6 x7->LG E aJ c (Of l x0 x1 x2 x3 x4 x5 x6 x7) (Gf l x0 x1 x2 x3 x4 x5 x6 x7)
 |[]=>h0
 |b::l=>h b l (Pp h0 h l)
end
def bs{α:Type _}{β:Type _}{x:Option α}{k:α->Option β}{r:β}(h:x.bind k=some r): ∃y,x=some y/\k y=some r:=by
 cases x with
 |none=>cases h
 |some y=>exact⟨y,rfl,h⟩
def ct{β:Type _}{x y:Option β}{r:β}(h:(if b=true then x else y)=some r)(M:b=true):x=some r:=by rwa [br M]at h
def cf{β:Type _}{x y:Option β}{r:β}(h:(if b=true then x else y)=some r)(M:b=false):y=some r:=by rwa [aS (by rw [M];decide)]at h
def so{β:Type _}{x r:β}(h:some x=some r):x=r:=by simpa using h
def og [Inhabited α]{x:Option α}{k:α->Option β}{d:Option β}{r:β}(h:(if b=true then x.bind k else d)=some r): ∃y,(b=true->x=some y/\k y=some r)/\(b=false->d=some r):=by
 cases b with
 |true=>obtain⟨y,I,K⟩:=bs (ct h rfl);exact⟨y,fun _=>⟨I,K⟩,fun e=>(by cases e)⟩
 |false=>exact⟨default,fun e=>(by cases e),fun _=>cf h rfl⟩

def dP{α β:Type}(p:Rp α)(q:Rp β):Rp (α×β) where
 sz:=p.sz+q.sz
 agg:=true
 rc:=fun S cs x=> ∃a b,cs=a++b/\p.rc S a x.1/\q.rc S b x.2
 mono:=fun h ⟨a,b,e,I,K⟩=>⟨a,b,e,p.mono h I,q.mono h K⟩
 len:=fun⟨a,b,e,I,K⟩=>by rw [e,ju,p.len I,q.len K]
 one:=fun⟨a,b,e,I,K⟩ c hc=>by
  rw [e]at hc
  rcases BG.1 hc with h|h
  ·exact p.one I c h
  ·exact q.one K c h
 sc:=fun h=>by cases h
def rW{α β:Type}(p:Rp α)(f:β->α):Rp β where
 sz:=p.sz
 agg:=true
 rc:=fun S cs x=>p.rc S cs (f x)
 mono:=fun h k=>p.mono h k
 len:=fun h=>p.len h
 one:=fun h=>p.one h
 sc:=fun h=>by cases h
def eP{p:Rp α}{f:β->α}:qZ (rW p f) 0 p f:=fun S cs x h=>by
 have h' :p.rc S cs (f x):=h
 have hl:=p.len h'
 rw [xM,<-hl,Dg];exact h'
variable{γ:Type}
def iN{p:Rp α}{r:Rp γ}{get:γ->α×β}(h:qZ r off (dP p q) get):qZ r off p (fun x=>(get x).1):=fun S cs x k=>by
 obtain⟨a,b,e,I,K⟩:=h S cs x k
 have hl:=p.len I
 have hl2:=q.len K
 have:(cs.drop off).take p.sz=a:=by
  have e2:=congrArg (List.take p.sz) e
  rw [BF,Df (by show p.sz<=p.sz+q.sz;omega),<-hl,List.take_left]at e2
  rw [<-hl];exact e2
 rw [this];exact I
def bI{p:Rp α}{r:Rp γ}{off' :Nat}{get:γ->α×β}(h:qZ r off (dP p q) get)(ho:off' =off+p.sz):qZ r off' q (fun x=>(get x).2):=fun S cs x k=>by
 obtain⟨a,b,e,I,K⟩:=h S cs x k
 have hl:=p.len I
 have hl2:=q.len K
 have:(cs.drop off').take q.sz=b:=by
  have e2:=congrArg (List.drop p.sz) e
  rw [zD,qb,<-hl,List.drop_left]at e2
  rw [ho,<-hl,<-e2]
  congr 1
  show q.sz=p.sz+q.sz-a.length
  omega
 rw [this];exact K

section
variable{E:En}
def ZR{op:Op}{ty:TypeId}(hj:(ops[j]?).bind (·.dst)=some gs)(hgs:Nat.blt gs E.N.n=true)(H:cL G gs=some (tD rB b))(hd:Nat.blt d E.N.n=true)(h:b=true->cz E aK G ⟨some d,op,ty,pos,after,some (j,true)⟩ t)(k:RG E ops aJ rest aK ((d,nK b t)::G)):RG E ops aJ (⟨some d,op,ty,pos,after,some (j,true)⟩::rest) aK G:=by
 have e:(true&&(b==true))=b:=by cases b<;>rfl
 exact MS hj hgs (xh H) hd (by rw [e];exact h) (by rw [e];exact k)
def ZS{op:Op}{ty:TypeId}(hj:(ops[j]?).bind (·.dst)=some gs)(hgs:Nat.blt gs E.N.n=true)(H:cL G gs=some (tD rB b))(hd:Nat.blt d E.N.n=true)(h:(!b)=true->cz E aK G ⟨some d,op,ty,pos,after,some (j,false)⟩ t)(k:RG E ops aJ rest aK ((d,nK (!b) t)::G)):RG E ops aJ (⟨some d,op,ty,pos,after,some (j,false)⟩::rest) aK G:=by
 have e:(true&&(b==false))= !b:=by cases b<;>rfl
 exact MS hj hgs (xh H) hd (by rw [e];exact h) (by rw [e];exact k)
def cB{c:Bool}{op:Op}{ty:TypeId}(hj:(ops[j]?).bind (·.dst)=some gs)(hgs:Nat.blt gs E.N.n=true)(H:cL G gs=some (nK c (tD rB b)))(hd:Nat.blt d E.N.n=true)(h:(c&&b)=true->cz E aK G ⟨some d,op,ty,pos,after,some (j,true)⟩ t)(k:RG E ops aJ rest aK ((d,nK (c&&b) t)::G)):RG E ops aJ (⟨some d,op,ty,pos,after,some (j,true)⟩::rest) aK G:=by
 have e:(c&&(b==true))=(c&&b):=by cases b<;>rfl
 exact MS hj hgs (Br H) hd (by rw [e];exact h) (by rw [e];exact k)
def dB{c:Bool}{op:Op}{ty:TypeId}(hj:(ops[j]?).bind (·.dst)=some gs)(hgs:Nat.blt gs E.N.n=true)(H:cL G gs=some (nK c (tD rB b)))(hd:Nat.blt d E.N.n=true)(h:(c&& !b)=true->cz E aK G ⟨some d,op,ty,pos,after,some (j,false)⟩ t)(k:RG E ops aJ rest aK ((d,nK (c&& !b) t)::G)):RG E ops aJ (⟨some d,op,ty,pos,after,some (j,false)⟩::rest) aK G:=by
 have e:(c&&(b==false))=(c&& !b):=by cases b<;>rfl
 exact MS hj hgs (Br H) hd (by rw [e];exact h) (by rw [e];exact k)
def bU{l:List Oper}(H:o.guard=some (j,true))(hj:((l.toArray)[j]?).bind (·.dst)=some gs)(hgs:Nat.blt gs E.N.n=true)(M:cL need gs=some (tD rB b))(h:b=true->cz E aK need o t):bL E aK l.toArray need o (nK b t):=by
 have e:(true&&(b==true))=b:=by cases b<;>rfl
 have:=xq (t:=t) H hj hgs (xh (E:=E) M) (by rw [e];exact h)
 rwa [e]at this
def gV{l:List Oper}(H:o.guard=some (j,false))(hj:((l.toArray)[j]?).bind (·.dst)=some gs)(hgs:Nat.blt gs E.N.n=true)(M:cL need gs=some (tD rB b))(h:(!b)=true->cz E aK need o t):bL E aK l.toArray need o (nK (!b) t):=by
 have e:(true&&(b==false))= !b:=by cases b<;>rfl
 have:=xq (t:=t) H hj hgs (xh (E:=E) M) (by rw [e];exact h)
 rwa [e]at this
def pZ{l:List Oper}{c:Bool}(H:o.guard=some (j,true))(hj:((l.toArray)[j]?).bind (·.dst)=some gs)(hgs:Nat.blt gs E.N.n=true)(M:cL need gs=some (nK c (tD rB b)))(h:(c&&b)=true->cz E aK need o t):bL E aK l.toArray need o (nK (c&&b) t):=by
 have e:(c&&(b==true))=(c&&b):=by cases b<;>rfl
 have:=xq (t:=t) H hj hgs (Br (E:=E) M) (by rw [e];exact h)
 rwa [e]at this
def ln{l:List Oper}{c:Bool}(H:o.guard=some (j,false))(hj:((l.toArray)[j]?).bind (·.dst)=some gs)(hgs:Nat.blt gs E.N.n=true)(M:cL need gs=some (nK c (tD rB b)))(h:(c&& !b)=true->cz E aK need o t):bL E aK l.toArray need o (nK (c&& !b) t):=by
 have e:(c&&(b==false))=(c&& !b):=by cases b<;>rfl
 have:=xq (t:=t) H hj hgs (Br (E:=E) M) (by rw [e];exact h)
 rwa [e]at this
def nC{a:Bool}(h:a=true)(k:b=true):(a&&b)=true:=by rw [h,k];rfl
def pQ{a:Bool}(h:a=false):(!a)=true:=by rw [h];rfl
def pq{c:Operand}{x y:Code}(M:bk E.N G c (tD rB b))(h:b=true)(V:CG E aJ x aK G):CG E aJ (.cond c x y) aK G:=rJ M (fun _=>V) (fun e=>by rw [h]at e;cases e)
def pr{c:Operand}{x y:Code}(M:bk E.N G c (tD rB b))(h:b=false)(hy:CG E aJ y aK G):CG E aJ (.cond c x y) aK G:=rJ M (fun e=>by rw [h]at e;cases e) (fun _=>hy)
end
def RI [Inhabited α]{x:Option α}{k:α->Option β}{r:β}(h:b=true->x.bind k=some r): ∃y,b=true->x=some y/\k y=some r:=by
 cases b with
 |true=>obtain⟨y,I,K⟩:=bs (h rfl);exact⟨y,fun _=>⟨I,K⟩⟩
 |false=>exact⟨default,fun e=>(by cases e)⟩
def nz(n:Int):Option Unit:=if n=0 then none else some ()
def RJ{n:Int}{u:Unit}(h:nz n=some u):n≠0:=fun e=>by rw [e]at h;cases h

section
variable{E:En}{ty:TypeId}
def gG{c:Operand}{q:Bool}(hc:bk E.N G c (tD rB b))(V:b=true->bk E.N G x (tD rB q)):cz E aK G ⟨dst,.pick c x (.const (.bool false)),ty,pos,after,g⟩ (tD rB (b&&q)):=by
 refine Gw hc (fun h=>?_) (fun h=>?_)
 ·subst h;exact V rfl
 ·subst h;exact hB
def nW{c:Operand}{q:Bool}(hc:bk E.N G c (tD rB b))(V:b=false->bk E.N G x (tD rB q)):cz E aK G ⟨dst,.pick c (.const (.bool true)) x,ty,pos,after,g⟩ (tD rB (b||q)):=by
 refine Gw hc (fun h=>?_) (fun h=>?_)
 ·subst h;exact hB
 ·subst h;exact V rfl
def cQ{c:Operand}{q t:Bool}(hc:bk E.N G c (tD rB b))(V:b=true->bk E.N G x (tD rB q))(e1:b=true->some q=some t)(e0:b=false->some false=some t):cz E aK G ⟨dst,.pick c x (.const (.bool false)),ty,pos,after,g⟩ (tD rB t):=by
 refine Gw hc (fun h=>?_) (fun h=>?_)
 ·rw [<-so (e1 h)];exact V h
 ·rw [<-so (e0 h)];exact hB
def eC{c:Operand}{q t:Bool}(hc:bk E.N G c (tD rB b))(V:b=false->bk E.N G x (tD rB q))(e1:(!b)=true->some q=some t)(e0:(!b)=false->some true=some t):cz E aK G ⟨dst,.pick c (.const (.bool true)) x,ty,pos,after,g⟩ (tD rB t):=by
 refine Gw hc (fun h=>?_) (fun h=>?_)
 ·rw [<-so (e0 (by rw [h];rfl))];exact hB
 ·rw [<-so (e1 (by rw [h];rfl))];exact V h
def Qw(hi:ts[i]? =some t)(V:bk E.N G x (tT ts)):cz E aK G ⟨dst,.extract x i,ty,pos,after,g⟩ t:=
 .of_pure fun a w S _ _ hf=>by
  obtain⟨vs,I,K⟩:=V S a hf
  obtain⟨v,h3,h4⟩:=K.at_ i t hi
  exact⟨v,by simp [execOp,I,Instr.extract,h3],h4⟩
def RF{k:IntKind}{n:Int}(V:bk E.N G x (tD (rI k) m))(hy:bk E.N G y (tD (rI k) n)):cz E aK G ⟨dst,.call ⟨.builtin .max,#[x,y],ats⟩,ty,pos,after,g⟩ (tD (rI k) (max m n)):=
 .of_pure fun a w S _ _ hf=>by
  have I:a.eval x= .int k m:=dL.1 (V S a hf)
  have K:a.eval y= .int k n:=dL.1 (hy S a hf)
  refine⟨.int k (if n>m then n else m),by simp [execOp,resolve,invoke,builtin,Builtin.max_,Builtin.max2,I,K],dL.2 ?_⟩
  congr 1
  rw [Int.max_def]
  split<;>split<;>omega
def LR{k:IntKind}{n:Int}(V:bk E.N G x (tD (rI k) m))(hy:bk E.N G y (tD (rI k) n)):cz E aK G ⟨dst,.call ⟨.builtin .min,#[x,y],ats⟩,ty,pos,after,g⟩ (tD (rI k) (min m n)):=
 .of_pure fun a w S _ _ hf=>by
  have I:a.eval x= .int k m:=dL.1 (V S a hf)
  have K:a.eval y= .int k n:=dL.1 (hy S a hf)
  refine⟨.int k (if n<m then n else m),by simp [execOp,resolve,invoke,builtin,Builtin.min_,Builtin.min2,I,K],dL.2 ?_⟩
  congr 1
  rw [Int.min_def]
  split<;>split<;>omega

def fL(P:Program){α β:Type}(args:α->List Ty)(res:β->Ty)(f:α->Option β):Ty where
 p:=fun S v=> ∃fid cap,v= .func (.func fid) #[] cap/\aj P fid=true/\ ∀x y,f x=some y-> ∀w S' vs,SH.le S S' ->lF w S' ->Aa S' (args x) vs->
  Calls P fid (vs.toArray++cap) w fun e w' => ∃v S'',e= .returned v/\jh s0 w S' w' S'' /\lF w' S'' /\(res y).p S'' v
 mono:=fun h ⟨f,cap,e,hc,k⟩=>⟨f,cap,e,hc,fun x y hxy w S' vs hle=>k x y hxy w S' vs (SH.le_trans h hle)⟩
def CU{N:Fr}{P:Program}{f:α->Option β}{fid:FuncId}(hc:aj P fid=true)(hs: ∀x y,f x=some y->bY P fid (args x) (res y)):bk N G (.func fid) (fL P args res f):=fun S a _=>
 ⟨fid,#[],rfl,hc,fun x y h w S' vs _ hsat hv=>by simpa using hs x y h w S' vs hsat hv⟩
def Aa.append: ∀{ts us:List Ty} {vs ws:List Value},Aa S ts vs->Aa S us ws->Aa S (ts++us) (vs++ws)
 |[],_,[],_,_,h=>h
 |_::_,_,_::_,_,⟨I,K⟩,h=>⟨I,Aa.append K h⟩
def kg{f:α->Option β}{fid:FuncId}{caps:List Operand}{cts:List Ty}(hc:aj E.P fid=true)(hcap:kp E.N G caps cts)(hs: ∀x y,f x=some y->bY E.P fid (args x++cts) (res y)):cz E aK G ⟨dst,.makeFunc (.func fid) #[] caps.toArray,ty,pos,after,g⟩ (fL E.P args res f):=
 .of_pure fun a w S _ _ hf=>by
  refine⟨.func (.func fid) #[] (caps.map a.eval).toArray,by simp [execOp,Instr.makeFunc],fid,_,rfl,hc,fun x y h w' S' vs hle hsat hv=>?_⟩
  have hcv:=(hcap.tys hf).mono hle
  simpa using hs x y h w' S' _ hsat (hv.append hcv)
def jV{f:α->Option β}{fo:Operand}{x:α}{y:β}{xs:List Operand}(hfo:bk E.N G fo (fL E.P args res f))(h:f x=some y)(V:kp E.N G xs (args x)):
  cz E aK G ⟨dst,.call ⟨.value fo,xs.toArray,ats⟩,ty,pos,after,g⟩ (res y):=fun a w S hS _ hF=>by
 obtain⟨fid,cap,e,hc,hs⟩:=hfo S a hF
 have hr:(execOp a.eval ⟨dst,.call ⟨.value fo,xs.toArray,ats⟩,ty,pos,after,g⟩).run E.P w= .ok (.enter fid ((xs.map a.eval).toArray++cap)) w:=by
  simp [execOp,resolve,e,Deferred.ofValue,invoke,fZ hc]
 refine⟨fun c h=>(by cases h),?_⟩
 rw [hr]
 exact(hs x y h w S _ (SH.le_refl _) hS (V.tys hF)).mono fun e w' ⟨v,S',he,I,K,h3⟩=>⟨v,he,v,S',rfl,I,K,h3⟩
end
def bY.of{P:Program}{N:Nat}(hf:P.funcs[f]? =some fn)(M:fn.body=some c)(hN:fn.ntmps=N)(hn:Nat.ble ts.length N=true)(h: ∀w0 S0,CG ⟨P,⟨N,[]⟩,s0,w0,S0,none⟩ (bodyPost P fn (MI ⟨P,⟨N,[]⟩,s0,w0,S0,none⟩ t)) c [] (vh 0 ts)):bY P f ts t:=by
 subst hN
 exact MR hf M (rL hn) h
def nn{α:Type _}{r:α}(h:(none:Option α)=some r):False:=by cases h
def qa{N:Fr}:bk N G (.const (.slice none 0 0)) (tV (bw none 0 0)):=fun _ _ _=>rfl
def fm:Nat:=2^64
section
variable{E:En}{ty:TypeId}
def Qq(l:Option Nat)(cap n:Nat)(h:l=none->n=0): ∃a c,bw l cap n= .slice a n c:=by
 cases l with
 |none=>rw [h rfl];exact⟨none,0,rfl⟩
 |some b=>exact⟨_,cap,rfl⟩
def fO{r:Rp α}{n:Nat}{t:TypeId}(Y:E.P.underlying t=some (.slice e))(hm:oq mm r ak l cap xs∈aK)(V:bk E.N G x (tV (bw l cap n)))(hn:n=xs.length:=by rfl):
  cz E aK G ⟨dst,.call ⟨.builtin .len,#[x],#[t]⟩,ty,pos,after,g⟩ (tD (rI .i64) (n:Int)):=
 .of_pure fun a w S _ ho hf=>by
  have I:a.eval x=bw l cap n:=V S a hf
  have K:=(ho.mem _ hm).1
  obtain⟨ad,c,h3⟩:=Qq l cap n (fun e=>by subst e;obtain⟨_,h4,_⟩:=K;rw [hn];exact h4.1)
  refine⟨.int .i64 n,?_,dL.2 rfl⟩
  simp [execOp,resolve,invoke,builtin,Builtin.len_,nc Y,I,h3,goInt]
end

structure Xa(P:Program){α:Type} [DecidableEq α](t:TypeId)(r:Rp α):Prop where
 guard:P.eqGuardType P.depth t=false
 run: ∀(S:SH) (cs ds:List Value) (x y:α) (d:Nat) (w:World),r.rc S cs x->r.rc S ds y->(Op.equalIn (d+20) t (r.val cs) (r.val ds)).run P w= .ok (decide (x=y)) w
section
variable{E:En}{ty:TypeId}
def F0{P:Program}{t:TypeId}(h:P.eqGuardType P.depth t=false){op:BinOp}{x y:Operand}{u v:Array Value}{w:World}:(eqGuard op t x y (.agg u) (.agg v)).run P w= .ok () w:=by
 unfold eqGuard
 cases op<;>first|rfl|simp [h]
def vq{r:Rp α}(h:r.agg=true)(cs:List Value):r.val cs= .agg cs.toArray:=by unfold Rp.val;rw [br h]
def uu [DecidableEq α]{r:Rp α}{m n:α}(he:Xa E.P xt r)(V:bk E.N G x (tD r m))(hy:bk E.N G y (tD r n))(ha:r.agg=true:=by rfl):cz E aK G ⟨dst,.binOp .eql xt x y yt,ty,pos,after,g⟩ (tD rB (decide (m=n))):=
 .of_pure fun a w S _ _ hf=>by
  obtain⟨cs,I,K⟩:=V S a hf
  obtain⟨ds,h3,h4⟩:=hy S a hf
  refine⟨.bool (decide (m=n)),?_,ko.2 rfl⟩
  have hr:=he.run S cs ds m n 9980 w K h4
  have H:= @F0 E.P xt he.guard .eql x y cs.toArray ds.toArray w
  rw [vq ha,vq ha]at hr
  simp only [execOp,I,h3,vq ha,xK,H,zS,binOp,Op.equal,Op.maxDepth]
  rw [show(10000:Nat)=9980+20 from rfl,hr]
  simp
def LP [DecidableEq α]{r:Rp α}{m n:α}(he:Xa E.P xt r)(V:bk E.N G x (tD r m))(hy:bk E.N G y (tD r n))(ha:r.agg=true:=by rfl):cz E aK G ⟨dst,.binOp .neq xt x y yt,ty,pos,after,g⟩ (tD rB (!decide (m=n))):=
 .of_pure fun a w S _ _ hf=>by
  obtain⟨cs,I,K⟩:=V S a hf
  obtain⟨ds,h3,h4⟩:=hy S a hf
  refine⟨.bool (!decide (m=n)),?_,ko.2 rfl⟩
  have hr:=he.run S cs ds m n 9980 w K h4
  have H:= @F0 E.P xt he.guard .neq x y cs.toArray ds.toArray w
  rw [vq ha,vq ha]at hr
  simp only [execOp,I,h3,vq ha,xK,H,zS,binOp,Op.equal,Op.maxDepth]
  rw [show(10000:Nat)=9980+20 from rfl,hr]
  simp
end

def sZ{base:Nat}{B:Nat->Prop}(h:dN base B w S aK)(k:jh s0 w S w' S'){e:OE}(he:e.p w' S')(hn: ∀b,e.fp b->w.heap.size<=b)(M:base<=w.heap.size:=by first|assumption|exact St.base_le (by assumption)):dN base B w' S' (e::aK):=
 ⟨⟨he,fun b hb' => .inl (BZ M (hn b hb'))⟩,fun f hf b hb' hfb=>by
  have:=f.here (dN.mem h f hf).1 b hfb
  have:=hn b hb'
  omega,h.ext0 k⟩
def fR(P:Program)(f:FuncId)(ts:List Ty)(mm:Bool){α:Type}(r:Rp α)(ak:TypeId)(xs:List α):Prop:=
 ∀w S vs,lF w S->Aa S ts vs->Calls P f vs.toArray w fun e w' => ∃l cap S',e= .returned (bw l cap xs.length)/\jh s0 w S w' S' /\lF w' S' /\(oq mm r ak l cap xs).holds w.heap.size s0 w' S'
def Qd{r:Rp α}(h:(oq mm r ak l cap xs).holds w.heap.size s0 w' S')(he:jh s0 w S w' S')(hs:lF w' S'):
  ∃S'',jh s0 w S w' S'' /\lF w' S'' /\(tD (f9 r) xs).p S'' (bw l cap xs.length):=by
 have st:St ⟨default,⟨0,[]⟩,s0,w,S,none⟩ [oq mm r ak l cap xs] [] ⟨#[],[]⟩ w' S' :=⟨he,hs,⟨h,fun _ hf=>(by cases hf),trivial⟩,⟨rfl,rfl,fun _ _ h=>(by simp [cL]at h)⟩⟩
 obtain⟨S'',I,K⟩:=st.settle
 exact⟨S'',I.ext,I.sat,K⟩
def fR.spec{P:Program}{r:Rp α}(h:fR P f ts mm r ak xs):bY P f ts (tD (f9 r) xs):=fun w S vs hs hv=>
 (h w S vs hs hv).mono fun e w' ⟨l,cap,S',he,I,K,h3⟩=>by
  obtain⟨S'',h4,h5,h6⟩:=Qd h3 I K
  exact⟨_,S'',he,h4,h5,h6⟩
def ad1(E:En)(mm:Bool){α:Type}(r:Rp α)(ak:TypeId)(xs:List α):Ending->World->Prop:=fun e w' => ∃l cap S',e= .returned (bw l cap xs.length)/\jh E.B E.w0 E.S0 w' S' /\lF w' S' /\(oq mm r ak l cap xs).holds E.w0.heap.size E.B w' S'
def fR.of{P:Program}{N:Nat}{r:Rp α}(hf:P.funcs[f]? =some fn)(M:fn.body=some c)(hN:fn.ntmps=N)(hn:Nat.ble ts.length N=true)(h: ∀w0 S0,CG ⟨P,⟨N,[]⟩,s0,w0,S0,none⟩ (bodyPost P fn (ad1 ⟨P,⟨N,[]⟩,s0,w0,S0,none⟩ mm r ak xs)) c [] (vh 0 ts)):fR P f ts mm r ak xs:=by
 subst hN
 intro w S vs hs hv
 exact lE.1 (GP (F:=fw none) (n:=0) hf M trivial (h w S _ w S ⟨jh.refl _ _ _,hs,trivial,oR hv _ (rL hn)⟩))
section
variable{E:En}
def fY{P:Program}{N:Nat}{B:Nat->Prop}{w0:World}{S0:SH}{r:Rp α}{n:Nat}(hr:fn.results= #[.tmp k])(hk:cL G k=some (tV (bw l cap n)))(hn:n=xs.length:=by rfl):
  AT ⟨P,⟨N,[]⟩,B,w0,S0,none⟩ (bodyPost P fn (ad1 ⟨P,⟨N,[]⟩,B,w0,S0,none⟩ mm r ak xs)) .ret (oq mm r ak l cap xs::aK) G:=fun a w S st=>by
 subst hn
 have hv:a.tmps.getD k undef=bw l cap xs.length:=st.facts.at_ k _ hk
 exact⟨st.facts.defers,_,o9 P fn k hr _ _,l,cap,S,by rw [hv],st.ext,st.sat,st.own.1⟩
section
variable{ty:TypeId}
def Uj{xs:List Operand}{r:Rp α}{u:Nat->Option Nat->Ty}(hc:aj E.P f=true)(hs:fR E.P f ts mm r ak ys)(V:kp E.N G xs ts)(hd:Nat.blt d E.N.n=true)(hu: ∀l cap w0 S,(oq mm r ak l cap ys).p w0 S->(u cap l).p S (bw l cap ys.length))(k: ∀l cap,RG E ops aJ rest (oq mm r ak l cap ys::aK) ((d,u cap l)::G)):
  RG E ops aJ (⟨some d,.call ⟨.value (.func f),xs.toArray,ats⟩,ty,pos,after,none⟩::rest) aK G:= .of rfl fun a w S st=>by
 have hr:(execOp a.eval ⟨some d,.call ⟨.value (.func f),xs.toArray,ats⟩,ty,pos,after,none⟩).run E.P w= .ok (.enter f (xs.map a.eval).toArray) w:=by
  simp [execOp,resolve,Act.eval,Deferred.ofValue,invoke,fZ hc]
 refine⟨fun c h=>(by cases h),?_⟩
 rw [hr]
 refine(hs w S _ st.sat (V.tys st.facts)).mono fun e w' ⟨l,cap,S',he,I,K,h3⟩=>⟨_,he,?_⟩;refine k l cap _ _ S' ⟨st.ext.step0 I,K,sZ st.own I h3.1 (fun b M=>(h3.2 b M).resolve_right id) st.base_le,(st.facts.mono I.keep).put hd (hu l cap w' S' h3.1)⟩
def WJ{xs:List Operand}{r:Rp α}(hc:aj E.P f=true)(hs:fR E.P f ts false r ak ys)(V:kp E.N G xs ts)(hd:Nat.blt d E.N.n=true)(k: ∀l cap,RG E ops aJ rest (ff r ak l cap ys::aK) ((d,tV (bw l cap ys.length))::G)):
  RG E ops aJ (⟨some d,.call ⟨.value (.func f),xs.toArray,ats⟩,ty,pos,after,none⟩::rest) aK G:=Uj (u:=fun cap l=>tV (bw l cap ys.length)) hc hs V hd (fun _ _ _ _ _=>rfl) k
def mo{r:Rp α}{xs:List Operand}{t:TypeId}{n sz:Nat}{agg:Bool}(Y:E.P.underlying t=some (.slice ak))(ti:TI E.P ak sz bytes agg z)(hsz:r.sz=sz)(h0:Nat.blt 0 sz=true)(hp:parts=Cn 0 xs)(hn:n=ys.length)(M:Nat.ble (n*sz) 16777216=true)(V:kp E.N G xs (ys.map (tD r)))(hd:Nat.blt d E.N.n=true)(k: ∀l cap,RG E ops aJ rest (ff r ak l cap ys::aK) ((d,tV (bw l cap ys.length))::G)):
  RG E ops aJ (⟨some d,.buildSlice t n parts.toArray,ty,pos,after,none⟩::rest) aK G:= .of rfl fun a w S st=>by
 obtain⟨cs,hc,hr⟩:=At Y ti hsz hn M (V.tys st.facts) w
 subst hsz
 subst hp
 have hb' :=rL M
 have h0' :0<r.sz:=by simpa [wT] using h0
 have hnle:n<=n*r.sz:=Nat.le_mul_of_pos_right n h0'
 have hcl:=rD hc
 obtain⟨he,hs',hno⟩:=iD (w:=w) (.cells cs.toArray ak (0,0)) st.sat
 have hrun:(execOp a.eval ⟨some d,.buildSlice t n (Cn 0 xs).toArray,ty,pos,after,none⟩).run E.P w= .ok (.value (.slice (some ⟨w.heap.size,0,none⟩) n n)) (w.alloc (.cells cs.toArray ak (0,0))):=by
  simp only [execOp,xK,hr,zS,Sem.run_pure]
 refine⟨fun c h=>(by cases h),?_⟩
 rw [hrun]
 refine k (some w.heap.size) n _ _ S ⟨st.ext.step0 he,hs',sZ st.own he ⟨cs,⟨cs.toArray,Af w _,by omega,by simp only [maxLen];omega,by simp [hcl,hn],by simp [<-hcl]⟩,hc,fun b M=>by rw [<-sI M];exact hno⟩ (fun b M=>Di (sI M)) st.base_le,st.facts.put hd ?_⟩
 ·show _=bw _ _ _
  rw [<-hn];rfl
def wI{r:Rp α}{t:TypeId}(Y:E.P.underlying t=some (.slice e))(V:bk E.N G x (tD (f9 r) xs))(hd:Nat.blt d E.N.n=true)(k: ∀b,(b=true->xs=[])->RG E ops aJ rest aK ((d,tD rB b)::G)):RG E ops aJ (⟨some d,.binOp .eql t x (.const (.slice none 0 0)) yt,ty,pos,after,none⟩::rest) aK G:= .of rfl fun a w S st=>by
 obtain⟨ad,cap,I,_,_,K⟩:=rA.1 (V S a st.facts)
 have hrun:(execOp a.eval ⟨some d,.binOp .eql t x (.const (.slice none 0 0)) yt,ty,pos,after,none⟩).run E.P w= .ok (.value (.bool ad.isNone)) w:=by
  have h3:(Op.equal t (.slice ad xs.length cap) (.slice none 0 0)).run E.P w= .ok ad.isNone w:=Dz fun d=>by
   cases ad<;>simp [Op.equalIn,nc Y]
  have hcn:a.eval (.const (.slice none 0 0))= .slice none 0 0:=rfl
  simp [execOp,I,hcn,eqGuard,binOp,h3]
 refine⟨fun c h=>(by cases h),?_⟩
 rw [hrun]
 refine k ad.isNone (fun e=>?_) _ _ S (st.step (jh.refl _ _ _) st.sat hd (ko.2 rfl))
 rcases K with K|⟨b,off,c,ak,fr,e1,_⟩
 ·exact K
 ·subst e1;cases e
end
end

def ba(b off:Nat):Value:= .pointer (some ⟨b,off,none⟩)
def bx{α:Type}(r:Rp α)(ak:TypeId)(b:Nat)(x:α):OE where
 fp:=fun k=>k=b
 p:=fun w S=>S b=none/\ ∃c,w.heap[b]? =some (.cells c ak (0,0))/\r.rc S c.toList x
 here:=by
  intro w S h k hk
  subst hk
  obtain⟨I,c,K,_⟩:=h
  exact(yL.1 K).1
 kept:=by
  intro C w w' S S' h k hC
  obtain⟨I,c,K,h3⟩:=h
  have hlt:=(yL.1 K).1
  exact⟨by rw [k.old b hlt (hC b rfl)];exact I,c,by rw [k.heap b hlt (hC b rfl)];exact K,r.mono k.keep h3⟩
def rV:Rp Value where
 sz:=1
 agg:=false
 rc:=fun _ cs v=>cs=[v]/\v.oneCell' =true
 mono:=fun _ h=>h
 len:=fun h=>by rw [h.1];rfl
 one:=fun h c hc=>by rw [h.1]at hc;simp at hc;subst hc;exact h.2
 sc:=fun _=>rfl
def yR{u:Value}:(tD rV u).p S v↔v=u/\u.oneCell' =true:=by
 constructor
 ·rintro⟨cs,rfl,I,K⟩;subst I;exact⟨rfl,K⟩
 ·rintro⟨rfl,h⟩;exact⟨[v],rfl,rfl,h⟩
def lh{α β:Type}(r:Rp α)(off:Nat)(q:Rp β)(set:α->β->α):Prop:= ∀S cs x ds y,r.rc S cs x->q.rc S ds y->r.rc S (cs.take off++ds++cs.drop (off+q.sz)) (set x y)
section
variable{E:En}{e:Exit}
def St.settleB{r:Rp α}{b:Nat}{x:α}(h:St E (bx r ak b x::aK) G a w S)(hk:cL G k=some (tV (ba b 0))): ∃S',St E aK ((k,bF r x)::G) a w S' :=by
 obtain⟨⟨hn,cur,h3,h4⟩,_⟩:=h.own.1
 obtain⟨h8,hle,_,_⟩:=CF h rfl h3 (yi _) hn
 have hv:a.tmps.getD k undef=ba b 0:=h.facts.at_ k _ hk
 refine⟨_,h8.cons ⟨b,0,cur,ak,(0,0),hv,by simp [SH.set],?_⟩⟩
 have hl:cur.size=r.sz:=by have:=r.len h4;simpa using this
 have:=r.mono hle h4
 rw [xM,u0 (by simp [hl])];exact this
def aV{r:Rp α}{b:Nat}{x:α}(k:Nat)(hk:cL G k=some (tV (ba b 0)))(h:RG E ops aJ rest aK ((k,bF r x)::G)):RG E ops aJ rest (bx r ak b x::aK) G:=
 fun a w _ st=>let⟨S',st'⟩:=st.settleB hk;h a w S' st'
def aB{r:Rp α}{b:Nat}{x:α}(k:Nat)(hk:cL G k=some (tV (ba b 0)))(h:AT E aJ e aK ((k,bF r x)::G)):AT E aJ e (bx r ak b x::aK) G:=
 fun a w _ st=>let⟨S',st'⟩:=st.settleB hk;h a w S' st'
section
variable{ty:TypeId}
def aQ{r:Rp α}{x:α}{sz:Nat}{agg:Bool}(ti:TI E.P ak sz bytes agg z)(V: ∀S,r.rc S z x)(hd:Nat.blt d E.N.n=true)(k: ∀b,RG E ops aJ rest (bx r ak b x::aK) ((d,tV (ba b 0))::G)):RG E ops aJ (⟨some d,.alloc ak,ty,pos,after,none⟩::rest) aK G:= .of rfl fun a w S st=>by
 obtain⟨zv,hzr,hzc⟩:=ti.zero w
 obtain⟨he,hs',hno⟩:=iD (w:=w) (.cells z.toArray ak (0,0)) st.sat
 have hrun:(execOp a.eval ⟨some d,.alloc ak,ty,pos,after,none⟩).run E.P w= .ok (.value (ba w.heap.size 0)) (w.alloc (.cells z.toArray ak (0,0))):=by
  simp [execOp,Instr.alloc,hzr,newVar,newRow,hzc,ba]
 refine⟨fun c h=>(by cases h),?_⟩
 rw [hrun]
 exact k w.heap.size _ _ S ⟨st.ext.step0 he,hs',sZ st.own he ⟨hno,z.toArray,Af w _,by simpa using V S⟩ (fun b M=>Di M.symm) st.base_le,st.facts.put hd rfl⟩
def vI{r:Rp α}{v:α}(V:bk E.N G x (tD r v))(hd:Nat.blt d E.N.n=true)(k: ∀b,RG E ops aJ rest (bx r ak b v::aK) ((d,tV (ba b 0))::G)):RG E ops aJ (⟨some d,.box ak x,ty,pos,after,none⟩::rest) aK G:= .of rfl fun a w S st=>by
 obtain⟨cs,hv,hc⟩:=V S a st.facts
 obtain⟨he,hs',hno⟩:=iD (w:=w) (.cells cs.toArray ak (0,0)) st.sat
 have hrun:(execOp a.eval ⟨some d,.box ak x,ty,pos,after,none⟩).run E.P w= .ok (.value (ba w.heap.size 0)) (w.alloc (.cells cs.toArray ak (0,0))):=by
  simp [execOp,Instr.box,newVar,newRow,hv,vL hc,ba]
 refine⟨fun c h=>(by cases h),?_⟩
 rw [hrun]
 exact k w.heap.size _ _ S ⟨st.ext.step0 he,hs',sZ st.own he ⟨hno,cs.toArray,Af w _,by simpa using hc⟩ (fun b M=>Di M.symm) st.base_le,st.facts.put hd rfl⟩
def sw{base:Nat}{B:Nat->Prop}{b:Nat}(hs:lF w S)(f f' :OE)(h:dN base B w S (f::aK))(hf: ∀k,f.fp k↔k=b)(hf' : ∀k,f'.fp k↔k=b)(H:w'.os=w.os/\w'.tape=w.tape/\w'.output=w.output/\w'.heap.size=w.heap.size/\w.drawn<=w'.drawn)(ho: ∀k,k≠b->w'.heap[k]? =w.heap[k]?)(hp:f'.p w' S)(hno:S b=none):jh (fun k=>k=b) w S w' S/\lF w' S/\dN base B w' S (f' ::aK):=by
 have hext:jh (fun k=>k=b) w S w' S:=⟨H.1,H.2.1,H.2.2.1,H.2.2.2.2,by omega,fun k _ hk=>ho k hk,SH.le_refl _,fun _ _ _=>rfl⟩
 refine⟨hext,hs.same fun k o hk=>?_,⟨hp,fun k hk=>h.1.2 k ((hf k).2 ((hf' k).1 hk))⟩,fun g hgm k hk=>h.2.1 g hgm k ((hf k).2 ((hf' k).1 hk)),h.2.2.ext hext fun g hgm k hk hkb=>h.2.1 g hgm k ((hf k).2 hkb) hk⟩
 have hne:k≠b:=fun e=>by subst e;rw [hno]at hk;cases hk
 exact ho k hne
def lv{P:Program}{q:Rp α}{sz:Nat}{agg:Bool}(ti:TI P U sz bytes agg z)(hsz:q.sz=sz){ds:List Value}{y:α}(hy:q.rc S ds y){b:Nat}{cur:Array Value}(H:w.heap[b]? =some (.cells cur ak (0,0)))(hfit:off+q.sz<=cur.size):
  ∃w',(storeVar U ⟨b,off,none⟩ (q.val ds)).run P w= .ok () w' /\w'.os=w.os/\w'.tape=w.tape/\w'.output=w.output/\(w'.heap.size=w.heap.size/\w.drawn<=w'.drawn)/\w'.heap[b]? =some (.cells (cur.toList.take off++ds++cur.toList.drop (off+q.sz)).toArray ak (0,0))/\ ∀k,k≠b->w'.heap[k]? =w.heap[k]? :=by
 have hl:=q.len hy
 have hst:=run_storeCells_at P b off ak ds 0 cur w H (by omega) (q.one hy)
 simp only [vg]at hst
 refine⟨w.setRow b (cur.toList.take off++ds++cur.toList.drop (off+ds.length)).toArray,?_,rfl,rfl,rfl,⟨?_,fa _⟩,?_,fun k hk=>setRow_other w b k _ hk⟩
 ·generalize (cur.toList.take off++ds++cur.toList.drop (off+ds.length)).toArray=X at hst ⊢
  simp only [storeVar,xK,ti.sizeOf,zS,vL hy,JL,hl,hsz]
  simp only [sJ,Nc,fU]
  simpa using hst
 ·simp [World.setRow]
 ·rw [setRow_heap w b cur _ ak _ H,<-hl]
def dA{r:Rp α}{set:α->β->α}{x:α}{y:β}{b sz:Nat}{agg:Bool}{p v:Operand}(ti:TI E.P U sz bytes agg z)(hsz:q.sz=sz)(hset:lh r off q set)(hoff:Nat.ble (off+q.sz) r.sz=true)(hp:bk E.N G p (tV (ba b off)))(hv:bk E.N G v (tD q y))(k:RG E ops aJ rest (bx r ak b (set x y)::aK) G):RG E ops aJ (⟨none,.store U p v,ty,pos,after,none⟩::rest) (bx r ak b x::aK) G:= .of rfl fun a w S st=>by
 have I:a.eval p=ba b off:=hp S a st.facts
 obtain⟨ds,K,h3⟩:=hv S a st.facts
 obtain⟨⟨hno,cur,h5,h6⟩,_⟩:=st.own.1
 have hl:=r.len h6
 have hoff' :=rL hoff
 obtain⟨w',hr,e1,e2,e3,e4,e5,e6⟩:=lv ti hsz h3 h5 (off:=off) (by simp at hl;omega)
 have hrun:(execOp a.eval ⟨none,.store U p v,ty,pos,after,none⟩).run E.P w= .ok .skip w' :=by
  simp [execOp,I,K,Instr.storeAt,ba,Instr.sureAddr,hr]
 refine⟨fun c h=>(by cases h),?_⟩
 rw [hrun]
 obtain⟨g1,g2,g3⟩:=sw (aK:=aK) st.sat (bx r ak b x) (bx r ak b (set x y)) st.own (fun _=>xR) (fun _=>xR) ⟨e1,e2,e3,e4.1,e4.2⟩ e6 ⟨hno,_,e5,by simpa using hset S _ _ _ _ h6 h3⟩ hno
 exact k _ _ S ⟨st.ext.step g1 (fun c hc=>st.own.1.2 c hc),g2,g3,st.facts⟩
def ah{r:Rp α}:lh r 0 r (fun _ y=>y):=fun S cs x ds y I K=>by
 have hl:=r.len I
 simpa [<-hl] using K
end
section
variable{ty:TypeId}
def Jw{sz b o:Nat}{p:Operand}(hf:dl E.P ak i=some (off,sz))(h0:Nat.beq sz 0=false)(hp:bk E.N G p (tV (ba b o))):cz E aK G ⟨dst,.fieldAddr ak p i,ty,pos,after,g⟩ (tV (ba b (o+off))):=
 .of_pure fun a w S _ _ hF=>by
  have I:a.eval p=ba b o:=hp S a hF
  obtain⟨fs,f,e1,e2,e3,e4⟩:=EP hf
  have h0' :sz≠0:=fun e=>by subst e;simp at h0
  refine⟨ba b (o+off),?_,rfl⟩
  simp [execOp,I,ba,Instr.fieldAt,nc e1,e2,Instr.sureAddr,fieldPlace,e4,h0',e3,lg]
def bR{r:Rp α}{get:α->β}{x:α}{b sz:Nat}{agg:Bool}{p:Operand}(ti:TI E.P U sz bytes agg z)(hsz:q.sz=sz)(hag:q.agg=agg)(hget:qZ r off q get)(hm:bx r ak b x∈aK)(hp:bk E.N G p (tV (ba b off))):
  cz E aK G ⟨dst,.load U p,ty,pos,after,g⟩ (tD q (get x)):=
 .of_pure fun a w S _ ho hf=>by
  have I:a.eval p=ba b off:=hp S a hf
  obtain⟨⟨_,cur,h5,h6⟩,_⟩:=ho.mem _ hm
  have h7:=hget S _ _ h6
  refine⟨_,?_,_,rfl,h7⟩
  simp [execOp,I,ba,Instr.loadAt,Instr.sureAddr,mB ti h5 hsz hag h7]
def bz{r:Rp α}:qZ r 0 r (fun x=>x):=fun S cs x h=>by
 have hl:=r.len h
 simpa [<-hl] using h
end
end

def gT{p:Rp α}:lh (dP p q) 0 p (fun x y=>(y,x.2)):=fun S cs x ds y h k=>by
 obtain⟨a,b,e,I,K⟩:=h
 have hl:=p.len I
 refine⟨ds,b,?_,k,K⟩
 rw [e,<-hl];simp
def bJ{p:Rp α}{s:Rp γ}{off' :Nat}{u:β->γ->β}(h:lh q off s u)(ho:off' =p.sz+off):lh (dP p q) off' s (fun x y=>(x.1,u x.2 y)):=fun S cs x ds y V hy=>by
 obtain⟨a,b,e,I,K⟩:=V
 have hl:=p.len I
 refine⟨a,b.take off++ds++b.drop (off+s.sz),?_,I,h S b x.2 ds y K hy⟩
 rw [e,ho,<-hl,List.take_length_add_append,show a.length+off+s.sz=a.length+(off+s.sz)from by omega,List.drop_length_add_append]
 simp
def ek{p:Rp α}{q:Rp γ}{u:α->γ->α}{f:β->α}{set:β->γ->β}(h:lh p off q u)(hf: ∀x y,f (set x y)=u (f x) y):lh (rW p f) off q set:=fun S cs x ds y V hy=>by
 show p.rc S _ (f (set x y))
 rw [hf]
 exact h S cs (f x) ds y V hy
def n7(P:Program)(ak:TypeId):Option (List (Nat×Nat)):=
 match P.underlying ak with
 |some (.struct fs)=>fs.toList.mapM fun f=>(P.info? f.type).map fun q=>(f.offset,q.size)
 |_=>none
def Hs{P:Program}: ∀(fs:List Field) (ps:List (Nat×Nat)) (w:World),fs.mapM (fun f=>(P.info? f.type).map fun q=>(f.offset,q.size))=some ps->
  (fs.mapM (fun f=>do pure (f.offset,<-sizeOf f.type):Field->Sem (Nat×Nat))).run P w= .ok ps w
 |[],ps,w,h=>by
  simp at h;subst h
  simp
 |f::fs,ps,w,h=>by
  simp only [List.mapM_cons]at h ⊢
  cases hq:P.info? f.type with
  |none=>simp [hq]at h
  |some q=>
   cases hr:fs.mapM (fun f=>(P.info? f.type).map fun q=>(f.offset,q.size))with
   |none=>simp [hq,hr]at h
   |some qs=>
    simp [hq,hr]at h
    subst h
    have ih:=Hs fs qs w hr
    simp [sizeOf,typeInfo,hq]at ih ⊢
    simp [ih]
section
variable{E:En}{ty:TypeId}
def BP(E:En)(G:nt){α:Type}(r:Rp α)(ps:List (Nat×Nat)):α->List (Nat×Operand)->α->Prop
 |x,[],y=>x=y
 |x,(i,o)::rest,y=> ∃(β:Type) (q:Rp β) (set:α->β->α) (off:Nat) (v:β),ps[i]? =some (off,q.sz)/\lh r off q set/\Nat.ble (off+q.sz) r.sz=true/\bk E.N G o (tD q v)/\BP E G r ps (set x v) rest y
def Ij{α:Type}{r:Rp α}{ps:List (Nat×Nat)}{S:SH}{a:Act}(hF:eJ E.N S a G): ∀(parts:List (Nat×Operand)) (x y:α) (cs:List Value),BP E G r ps x parts y->r.rc S cs x->
  ∃ds,r.rc S ds y/\Instr.fill (ps.toArray[·]?) cs.toArray (parts.map fun p=>(p.1,a.eval p.2))=some ds.toArray
 |[],x,y,cs,h,V=>by
  have e:x=y:=h
  subst e
  exact⟨cs,V,rfl⟩
 |(i,o)::rest,x,y,cs,⟨β,q,set,off,v,I,K,h3,h4,h5⟩,V=>by
  obtain⟨c,hv,hc⟩:=h4 S a hF
  have hl:=q.len hc
  have hlr:=r.len V
  have h3' :=rL h3
  have hcells:(a.eval o).cells=c.toArray:=by rw [hv];exact vL hc
  obtain⟨ds,h6,h7⟩:=Ij hF rest _ y _ h5 (K S cs x c v V hc)
  refine⟨ds,h6,?_⟩
  have hps:ps.toArray[i]? =some (off,q.sz):=by simpa using I
  have hs:(a.eval o).cells.size=q.sz:=by rw [hcells];simpa using hl
  have h8:=yT (a.eval o) off (cs.take off) ((cs.drop off).take q.sz) (cs.drop (off+q.sz)) (by rw [hs];simp;omega) (by simp;omega)
  have e1:cs.take off++(cs.drop off).take q.sz++cs.drop (off+q.sz)=cs:=by
   rw [ji,<-qb,xQ,xQ]
  rw [e1]at h8
  simp only [xU,Instr.fill,hps]
  rw [aS (by simp [hs,hlr];omega),h8,hcells]
  simpa using h7
def bM{r:Rp α}{x y:α}{ps:List (Nat×Nat)}{sz:Nat}{agg:Bool}(ti:TI E.P ak sz bytes agg z)(hp:n7 E.P ak=some ps)(hz: ∀S,r.rc S z x)(M:BP E G r ps x parts y)(ha:r.agg=true:=by rfl):
  cz E aK G ⟨dst,.build ak parts.toArray,ty,pos,after,g⟩ (tD r y):=
 .of_pure fun a w S _ _ hF=>by
  obtain⟨zv,hzr,hzc⟩:=ti.zero w
  obtain⟨ds,I,K⟩:=Ij hF parts x y z M (hz S)
  unfold n7 at hp
  split at hp
  ·rename_i fs hu
   have hpl:=Hs fs.toList ps w hp
   have hpl2:(fs.mapM (fun f=>do pure (f.offset,<-sizeOf f.type):Field->Sem (Nat×Nat))).run E.P w= .ok ps.toArray w:=by
    have hfs:fs=fs.toList.toArray:=by simp
    generalize fs.toList=l at hfs hpl
    subst hfs
    rw [List.mapM_toArray,Sem.run_map,hpl]
    rfl
   refine⟨.agg ds.toArray,?_,ds,(vq ha ds).symm,I⟩
   simp only [execOp,Instr.build,xK,hzr,zS,nc hu,hpl2,hzc]
   have hm:(parts.toArray.map fun(i,x)=>(i,a.eval x)).toList=parts.map fun p=>(p.1,a.eval p.2):=by simp
   rw [hm,K]
   simp
  ·cases hp
end
section
def fT{P:Program}{N:Nat}{B:Nat->Prop}{w0:World}{S0:SH}{r:Rp α}{x:α}{sz:Nat}{agg:Bool}(hr:fn.results= #[.cell k ak])(ti:TI P ak sz bytes agg z)(hsz:r.sz=sz)(hag:r.agg=agg)(hk:cL G k=some (bF r x)):
  AT ⟨P,⟨N,[]⟩,B,w0,S0,none⟩ (bodyPost P fn (MI ⟨P,⟨N,[]⟩,B,w0,S0,none⟩ (tD r x))) .ret aK G:=fun a w S st=>by
 obtain⟨b,off,c,U,fr,I,K,h3⟩:=st.facts.at_ k _ hk
 obtain⟨c',h4,h5⟩:=st.sat.part K (r.len h3)
 rw [<-h5]at h3
 refine⟨st.facts.defers,r.val ((c'.toList.drop off).take r.sz),?_,_,S,rfl,st.ext,st.sat,_,rfl,h3⟩
 have hl:=mB ti h4 hsz hag h3
 have h1' :a.tmps[k]?.getD undef=Value.pointer (some ⟨b,off,none⟩):=by simpa [Nb] using I
 simp [results,hr,h1',asAddr,hl]
end

def xd(L:List Oper):Nat->Nat->Nat->Bool
 |0,_,_=>false
 |n+1,i,j=>match L[i]? with
  |some o=>o.after.toList.any fun e=>Region.binds .any e&&(Nat.beq e.on j||xd L n e.on j)
  |none=>false
def IF(L:List Oper)(m:Nat):Bool:=(List.range m).all fun j=>xd L L.length m j
def Rn(L:List Oper)(n k:Nat):Bool:=(List.range k).all fun m=>IF L (n+m)&&(match L[n+m]? with|some o=>jq (n+m) o&&o.guard.isNone|none=>false)
def oI{L:List Oper}{done:Array Bool}(down: ∀j o,L[j]? =some o->done.getD j false=true-> ∀e∈o.after,Region.binds .any e=true->done.getD e.on false=true):
  ∀(n i j:Nat),(∀o,L[i]? =some o-> ∀e∈o.after,Region.binds .any e=true->done.getD e.on false=true)->xd L n i j=true->done.getD j false=true
 |0,_,_,_,h=>by cases h
 |n+1,i,j,hi,h=>by
  unfold xd at h
  cases ho:L[i]? with
  |none=>rw [ho]at h;cases h
  |some o=>
   rw [ho]at h
   obtain⟨e,he0,M⟩:=zR.1 h
   have he:e∈o.after:=by simpa using he0
   rw [gN,tB]at M
   have hd:=hi o ho e he M.1
   rcases M.2 with I|I
   ·rw [<-wQ I];exact hd
   ·exact oI down n e.on j (fun p hp=>down e.on p hp hd) I
def vT(h:i<done.size):done.getD i true=done.getD i false:=by simp [h]
def FI(h:xy done=0)(hi:i<done.size):done.getD i false=true:=by
 unfold xy at h
 rw [List.countP_eq_zero]at h
 have K:done[i]∈done.toList:=by simp
 have:=h _ K
 rw [<-vT hi]
 simpa [hi] using this
def PK{r:Option Nat}{P:Program}{L:List Oper}{n:Nat}(hc: ∀m o,n<=m->L[m]? =some o->IF L m=true)(hedge: ∀m o,L[m]? =some o->jq m o=true):
  ∀(rest:List Oper) (m:Nat) (done:Array Bool) (fuel:Nat) (a:Act) (w:World),n<=m->L.drop m=rest->done.size=L.length->(∀j,j<L.length->(done.getD j false=true↔j<m))->xy done=fuel->
   wpListIn (fw r) 0 P L.toArray aJ rest a w->wpAnyIn (fw r) 0 P .any L.toArray aJ fuel done a w:=by
 intro rest
 induction rest with
 |nil=>
  intro m done fuel a w hnm hdrop hsz hdone hu h
  have hlen:L.length<=m:=Jc.1 hdrop
  have hr:Region.ready .any L.toArray done=[]:=by
   cases hr:Region.ready .any L.toArray done with
   |nil=>rfl
   |cons i r=>
    have hm:i∈Region.ready .any L.toArray done:=by rw [hr];exact mp ..
    obtain⟨hun,o,ho,_⟩:=mem_ready.1 hm
    have hi:i<L.length:=by simpa using (yL.1 ho).1
    have:=(hdone i hi).2 (by omega)
    rw [vT (by omega)]at hun
    rw [hun]at this;cases this
  cases fuel with
  |zero=>exact⟨hr,h⟩
  |succ f=>exact⟨fun _=>h,fun i hi=>by rw [hr]at hi;cases hi⟩
 |cons o rest ih=>
  intro m done fuel a w hnm hdrop hsz hdone hu h
  have hm:m<L.length:=by
   rcases uy m L.length with h' |h'
   ·exact h'
   ·rw [Jc.2 h']at hdrop;cases hdrop
  have hLm:L[m]? =some o:=by
   have:=zU (xs:=L) (i:=m) (j:=0)
   rw [hdrop]at this
   simpa using this.symm
  have hmu:done.getD m true=false:=by
   have hnot: ¬(done.getD m false=true):=fun K=>by have:=(hdone m hm).1 K;omega
   rw [vT (by omega)]
   exact Gb _▸hnot
  have honly: ∀i∈Region.ready .any L.toArray done,i=m:=by
   intro i hi
   obtain⟨hun,p,hp,hwait⟩:=mem_ready.1 hi
   have hp' :L[i]? =some p:=by simpa using hp
   have hil:i<L.length:=(pP.1 hp').1
   have hid: ¬i<m:=fun hlt=>by
    have K:=(hdone i hil).2 hlt
    rw [vT (by omega)]at hun
    rw [hun]at K;cases K
   rcases uy m i with hlt|hge
   ·exfalso
    have hcov:=hc i p (by omega) hp'
    unfold IF at hcov
    have hre:=p7.1 hcov m (by simpa using hlt)
    have:done.getD m false=true:=by
     refine oI (L:=L) (done:=done) (fun j q hj hjd e he M=>?_) _ i m (fun q hq e he M=>?_) hre
     ·have hjl:j<L.length:=(pP.1 hj).1
      have hjm:=(hdone j hjl).1 hjd
      have:=hedge j q hj
      unfold jq at this
      have:=p7.1 this e (by simpa using he)
      simp only [M,p6,xL,wT]at this
      exact(hdone e.on (by omega)).2 (by omega)
     ·have:q=p:=by rw [hp']at hq;simpa using hq.symm
      subst this
      exact hwait e he M
    have:=(hdone m hm).1 this
    omega
   ·omega
  have hready:m∈Region.ready .any L.toArray done:=by
   rw [mem_ready]
   refine⟨hmu,o,by simpa using hLm,fun e he M=>?_⟩
   have:=hedge m o hLm
   unfold jq at this
   have:=p7.1 this e (by simpa using he)
   simp only [M,p6,xL,wT]at this
   exact(hdone e.on (by omega)).2 this
  cases fuel with
  |zero=>
   have:=FI hu (i:=m) (by omega)
   have:=(hdone m hm).1 this
   omega
  |succ fuel=>
   refine⟨fun hr=>(by rw [hr]at hready;cases hready),fun i hi=>?_⟩
   have:=honly i hi
   subst this
   have hnext:=fun a w=>ih (i+1) (done.setIfInBounds i true) fuel a w (by omega) (by rw [<-qb,hdrop];rfl) (by simpa using hsz) (fun j hj=>by
    by_cases hij:i=j
    ·subst hij;have:i<done.size:=by omega
     simp [this]
    ·rw [getD_set_ne false hij,hdone j hj];omega) (by have:=G7 hmu;omega)
   unfold wpOpIn
   have hLm' :L.toArray[i]? =some o:=by simpa using hLm
   rw [hLm']
   show if _ then _ else _
   unfold wpListIn at h
   by_cases hw:Region.wanted o (yielded L.toArray a.tmps)=true
   ·rw [br hw]at h ⊢;exact Oper.wpIn_mono (fun a w hk=>hnext a w hk) h
   ·rw [aS hw]at h ⊢;exact⟨h.1,hnext _ _ h.2⟩
end Go.Proofs.YtpgjgkdpeagjbaaGreatDoor

