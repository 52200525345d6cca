/- cP of this claim: W1, W49, W2, W3, W4, W5, W6, W7, W8, W9, W10, W11, W12, W13, W14. -/
import Derived.WalkKit
import Derived.Orders
import Derived.Lone
import Derived.RunT
import Derived.Calls
import Derived.RangeFuncIn
import Derived.TacticsIn
import Derived.OrdersIn
import Derived.LoopIn
import Derived.Laws.AppendOwn
import Derived.Deep.Upon
import Derived.Lib.AppendStr
import Derived.IntWalk
set_option linter.all false
-- TABI
namespace Go.Proofs.YtbmmihfagmchaaaGreat
open Go
def bt:= @Option.bind_some
def bo:= @if_neg
def bD:= @if_pos
def lK:= @List.mem_cons_self
def mZ:= @List.mem_cons_of_mem
def qf:= @List.getElem?_eq_some_iff
def qY:= @List.getElem?_eq_getElem
def iQ:= @Nat.le_refl
def fT:= @List.mem_cons
def iX:= @Bool.and_eq_true
def jE:= @List.length_append
def jL:= @List.mem_singleton
def i6:= @List.length_cons
def jr:= @List.append_assoc
def iW:= @List.nil_append
def kP:= @Bool.false_eq_true
def jK:= @List.all_eq_true
def nE:= @List.take_of_length_le
def nD:= @Nat.eq_of_beq_eq_true
def jD:= @run_underlying
def qq:= @List.getElem?_append_right
def po:= @Nat.le_of_ble_eq_true
def tX:= @List.eq_nil_of_length_eq_zero
def fP:= @if_true
def ll:= @Nat.lt_or_ge
def vy:= @List.take_append_of_le_length
def r0:= @List.take_append_drop
def iB:= @if_false
def u4:= @List.getElem?_append_left
def rZ:= @List.mem_of_getElem?
def nC:= @Bool.not_true
def vx:= @Array.getElem?_eq_some_iff
def pM:= @List.length_nil
def mC:= @Nat.zero_le
def vw:= @Array.getElem?_replicate
def pZ:= @Option.some.inj
def pY:= @List.mem_append
def pn:= @List.map_cons
def pX:= @List.drop_drop
def wr:= @List.getElem?_take_of_lt
def xu:= @List.drop_eq_getElem_cons
def rD:= @List.append_nil
def tW:= @List.getElem?_drop
def tU:= @Nat.lt_of_lt_of_le
def pL:= @Nat.zero_add
def tS:= @Result.andThen_ok
def tR:= @Int.toNat_natCast
def wq:= @Nat.mul_le_mul_right
def rC:= @List.mem_map
def sQ:= @getD_set_true
def yZ:= @Bool.or_eq_false_iff
def u3:= @Nat.min_eq_left
def vv:= @List.any_eq_true
def tQ:= @List.drop_zero
def Dw:= @List.drop_append_of_le_length
def sP:= @Sem.run_bind
def vu:= @Bool.or_eq_true
def wp:= @Bool.not_eq_true
def Bj:= @List.drop_of_length_le
def Dv:= @Array.getD_eq_getD_getElem?
def vt:= @List.take_take
def xr:= @List.cons_append
def Cv:= @List.filter_cons_of_neg
def tP:= @Nat.add_zero
def Bi:= @List.drop_eq_nil_iff
def Bh:= @Bool.and_eq_true_iff
def Cu:= @Option.map_eq_some_iff
def Ct:= @List.drop_eq_nil_of_le
def HQ:= @List.take_succ_eq_append_getElem
def yX:= @Nat.lt_succ_self
def Bg:= @List.map_congr_left
def tN:= @Nat.add_mul
def yW:= @List.map_append
def Bf:= @List.pairwise_cons
def vq:= @List.map_nil
def tA:= @Nat.blt_eq
def zn:= @List.take_length
def zm:= @List.length_take
def xq:= @Bool.true_and
def zl:= @List.length_map
def zk:= @Bool.eq_iff_iff
def Fs:= @List.getElem?_cons_zero
def Bd:= @List.getElem_mem
def Bc:= @List.length_drop
def xp:= @Nat.sub_self
def xo:= @Nat.le_trans
def zj:= @List.drop_take
def Cr:= @decide_eq_true_eq
def wv:= @Bool.eq_false_iff
def yq:= @Array.length_toList
def vc:= @List.mem_filter
def zw:= @List.getElem?_eq_none
def tZ:= @Bool.false_or
def sf:= @getD_set_ne
def zu:= @List.mem_iff_getElem
def q0:= @bne_iff_ne
def yp:= @List.getElem?_map
def yo:= @Bool.not_eq_true'
def qr:= @mem_ready
def vb:= @List.all_cons
def se:= @beq_iff_eq
def wu:= @heap_alloc_new
def tY:= @Prod.mk.inj
def yn:= @Option.map_some
def DA:= @Option.isSome_iff_exists
def BH:= @List.mem_append_left
def Dz:= @List.filter_cons_of_pos
def ym:= @Bool.not_false
def Dy:= @List.contains_iff_mem
def BG:= @List.ext_getElem?
def BF:= @List.size_toArray
def BE:= @Option.getD_some
def yl:= @List.map_map
def GY:= @decide_eq_false_iff_not
def sd:= @Iff.rfl
def zt:= @List.any_cons
def zr:= @Bool.and_true
def BD:= @List.length_set
def GX:= @Array.toList_replicate
def GW:= @MapKept.run_getObj_map
def BC:= @Bool.and_assoc
def GV:= @List.countP_replicate
def zq:= @Nat.le_of_eq
def GU:= @MapKept.run_checkKey

def Eb:Obj->Obj->Prop
 | .cells c E fr,o' => ∃d:List Value,o' = .cells (c.toList++d).toArray E fr
 |o,o' =>o' =o
variable{o:Oper}
def qM(o:Obj):Eb o o:=by
 cases o<;>first|rfl|exact⟨[],by simp⟩
variable{c:Code}{cells:List Value}{d:Nat}{fr:Nat×Nat}{k:Nat}{o' :Obj}
def BT{o o'' :Obj}(h:Eb o o')(k:Eb o' o''):Eb o o'' :=by
 cases o with
 |cells c E fr=>
  obtain⟨d,rfl⟩:=h
  obtain⟨d',rfl⟩:=k
  exact⟨d++d',by simp⟩
 |_=>cases h;exact k
variable{off:Nat}
def wN{c:Array Value}{E:TypeId}(h:Eb (.cells c E fr) o'){n:Nat}(hl:((c.toList.drop off).take n).length=n):
  ∃c',o' = .cells c' E fr/\(c'.toList.drop off).take n=(c.toList.drop off).take n:=by
 obtain⟨d,rfl⟩:=h
 refine⟨_,rfl,?_⟩
 by_cases hn:n=0
 ·subst hn;simp
 simp only [zm,Bc]at hl
 rw [Dw (by omega),vy (by simp only [Bc];omega)]
abbrev SH:=Nat->Option Obj
def SH.le(S S' :SH):Prop:= ∀b o,S b=some o-> ∃o',S' b=some o' /\Eb o o'
variable{S:SH}
def SH.le_refl(S:SH):SH.le S S:=fun _ o h=>⟨o,h,qM o⟩
variable{S' S'' :SH}{b:Bool}{e:TypeId}
def SH.le_trans(h:SH.le S S')(k:SH.le S' S''):SH.le S S'' :=fun b o e=>let⟨o',Y,J⟩:=h b o e;let⟨o'',Z,h4⟩:=k b o' Y;⟨o'',Z,BT J h4⟩
structure Ty where
 p:SH->Value->Prop
 mono: ∀{S S' :SH} {v:Value},SH.le S S' ->p S v->p S' v

structure Rp(α:Type) where
 sz:Nat
 agg:Bool
 rc:SH->List Value->α->Prop
 mono: ∀{S S' :SH} {cs:List Value} {x:α},SH.le S S' ->rc S cs x->rc S' cs x
 len: ∀{S:SH} {cs:List Value} {x:α},rc S cs x->cs.length=sz
 one: ∀{S:SH} {cs:List Value} {x:α},rc S cs x-> ∀c∈cs,c.oneCell' =true
 sc:agg=false->sz=1

def Rp.val{α:Type}(r:Rp α)(cs:List Value):Value:=if r.agg then .agg cs.toArray else cs.headD undef

def H{α:Type}(r:Rp α)(x:α):Ty where
 p:=fun S v=> ∃cs,v=r.val cs/\r.rc S cs x
 mono:=fun h ⟨cs,e,k⟩=>⟨cs,e,r.mono h k⟩

def vF:Ty where
 p:=fun _ _=>True
 mono:=fun _ _=>trivial

def tV(u:Value):Ty where
 p:=fun _ v=>v=u
 mono:=fun _ h=>h

def rI(k:IntKind):Rp Int where
 sz:=1
 agg:=false
 rc:=fun _ cs x=>cs=[.int k x]
 mono:=fun _ h=>h
 len:=fun h=>by rw [h];rfl
 one:=fun h c hc=>by subst h;simp at hc;subst hc;rfl
 sc:=fun _=>rfl

def rB:Rp Bool where
 sz:=1
 agg:=false
 rc:=fun _ cs x=>cs=[.bool x]
 mono:=fun _ h=>h
 len:=fun h=>by rw [h];rfl
 one:=fun h c hc=>by subst h;simp at hc;subst hc;rfl
 sc:=fun _=>rfl

abbrev I6:=List UInt8
def rS:Rp I6 where
 sz:=1
 agg:=false
 rc:=fun _ cs x=>cs=[.string ⟨x.toArray⟩]
 mono:=fun _ h=>h
 len:=fun h=>by rw [h];rfl
 one:=fun h c hc=>by subst h;simp at hc;subst hc;rfl
 sc:=fun _=>rfl

variable{cs:List Value}{v:Value}
def eZ{k:IntKind}{n:Int}:(H (rI k) n).p S v↔v= .int k n:=by
 constructor
 ·rintro⟨cs,rfl,h⟩;have h' :cs=[.int k n]:=h;subst h';rfl
 ·rintro rfl;exact⟨[.int k n],rfl,rfl⟩
def i8:(H rB b).p S v↔v= .bool b:=by
 constructor
 ·rintro⟨cs,rfl,h⟩;have h' :cs=[.bool b]:=h;subst h';rfl
 ·rintro rfl;exact⟨[.bool b],rfl,rfl⟩
def CC{s:I6}:(H rS s).p S v↔v= .string ⟨s.toArray⟩:=by
 constructor
 ·rintro⟨cs,rfl,h⟩;have h' :cs=[.string ⟨s.toArray⟩]:=h;subst h';rfl
 ·rintro rfl;exact⟨[.string ⟨s.toArray⟩],rfl,rfl⟩

def qK{α:Type}(r:Rp α)(S:SH):List Value->List α->Prop
 |cs,[]=>cs=[]
 |cs,x::xs=> ∃a b,cs=a++b/\r.rc S a x/\qK r S b xs
variable{a:Act}{α:Type}{xs:List α}
def qJ{α:Type}{r:Rp α}{S S' :SH}(h:SH.le S S'): ∀{xs:List α} {cs:List Value},qK r S cs xs->qK r S' cs xs
 |[],_,k=>k
 |_::_,_,⟨a,b,e,Y,J⟩=>⟨a,b,e,r.mono h Y,qJ h J⟩
variable{x:Operand}
def mi{α:Type}{r:Rp α}{S:SH}: ∀{xs:List α} {cs:List Value},qK r S cs xs->cs.length=xs.length*r.sz
 |[],_,k=>by rw [show _=_ from k];simp
 |x::xs,_,⟨a,b,e,Y,J⟩=>by rw [e,jE,r.len Y,mi J,i6,tN];omega
def ze{α:Type}{r:Rp α}{S:SH}: ∀{xs:List α} {cs:List Value},qK r S cs xs-> ∀c∈cs,c.oneCell' =true
 |[],_,k,c,hc=>by rw [show _=_ from k]at hc;cases hc
 |x::xs,_,⟨a,b,e,Y,J⟩,c,hc=>by
  rw [e]at hc
  rcases pY.1 hc with h|h
  ·exact r.one Y c h
  ·exact ze J c h
variable{ys:List α}
def s3{α:Type}{r:Rp α}{S:SH}: ∀{xs ys:List α} {cs ds:List Value},qK r S cs xs->qK r S ds ys->qK r S (cs++ds) (xs++ys)
 |[],_,_,_,k,h=>by rw [show _=_ from k];exact h
 |_::_,_,_,_,⟨a,b,e,Y,J⟩,h=>⟨a,_,by rw [e,jr],Y,s3 J h⟩
def oP{α:Type}{r:Rp α}{S:SH}: ∀{xs ys:List α} {cs:List Value},qK r S cs (xs++ys)->
  qK r S (cs.take (xs.length*r.sz)) xs/\qK r S (cs.drop (xs.length*r.sz)) ys
 |[],_,_,k=>by simp [qK];exact k
 |x::xs,ys,cs,⟨a,b,e,Y,J⟩=>by
  have hl:=r.len Y
  have ih:=oP J
  have e1:(x::xs).length*r.sz=a.length+xs.length*r.sz:=by rw [hl,i6,tN];omega
  rw [e,e1,List.take_length_add_append,List.drop_length_add_append]
  exact⟨⟨a,_,rfl,Y,ih.1⟩,ih.2⟩
def FT{r:Rp α}{x:α}:qK r S cs [x]↔r.rc S cs x:=by
 constructor
 ·rintro⟨a,b,rfl,h,V⟩
  rw [show b=[]from V,rD];exact h
 ·intro h;exact⟨cs,[],by simp,h,rfl⟩
variable{i:Nat}
def s0{r:Rp α}(h:qK r S cs xs){x:α}(I:xs[i]? =some x):
  r.rc S ((cs.drop (i*r.sz)).take r.sz) x:=by
 have hi:i<xs.length:=(qf.1 I).1
 have e:xs=xs.take i++(x::xs.drop (i+1)):=by
  have:=qf.1 I
  rw [<-this.2,<-xu hi,r0]
 have hl:(xs.take i).length=i:=by simp;omega
 rw [e]at h
 have J:=(oP h).2
 rw [hl]at J
 obtain⟨a,b,e2,Z,_⟩:=J
 rw [e2,<-r.len Z,List.take_left]
 exact Z

def DO{α:Type}(r:Rp α)(S:SH)(a:Option Addr)(xs:List α):Prop:=
 xs=[]\/ ∃b off c E fr,a=some ⟨b,off,none⟩/\S b=some (.cells c E fr)/\qK r S ((c.toList.drop off).take (xs.length*r.sz)) xs
def gy{α:Type}(r:Rp α):Rp (List α) where
 sz:=1
 agg:=false
 rc:=fun S cs xs=> ∃a cap,cs=[.slice a xs.length cap]/\xs.length<=cap/\cap<=maxLen/\DO r S a xs
 mono:=fun h ⟨a,cap,e,Y,J,Z⟩=>⟨a,cap,e,Y,J,Z.imp id fun⟨b,off,c,E,fr,e1,e2,e3⟩=>by
  obtain⟨o',h4,h5⟩:=h _ _ e2
  obtain⟨c',rfl,h6⟩:=wN h5 (mi e3)
  exact⟨b,off,c',E,fr,e1,h4,by rw [h6];exact qJ h e3⟩⟩
 len:=fun⟨a,cap,e,_⟩=>by rw [e];rfl
 one:=fun⟨a,cap,e,_⟩ c hc=>by rw [e]at hc;simp at hc;subst hc;rfl
 sc:=fun _=>rfl
variable{cap:Nat}
def lC{r:Rp α}:(H (gy r) xs).p S v↔ ∃a cap,v= .slice a xs.length cap/\xs.length<=cap/\cap<=maxLen/\DO r S a xs:=by
 constructor
 ·rintro⟨cs,rfl,a,cap,rfl,h⟩;exact⟨a,cap,rfl,h⟩
 ·rintro⟨a,cap,rfl,h⟩;exact⟨_,rfl,a,cap,rfl,h⟩
def G3{r:Rp α}:(H (gy r) []).p S (.slice none 0 0):=lC.2 ⟨none,0,rfl,iQ _,mC _,.inl rfl⟩

def bw{α:Type}(r:Rp α)(x:α):Ty where
 p:=fun S v=> ∃b off c E fr,v= .pointer (some ⟨b,off,none⟩)/\S b=some (.cells c E fr)/\r.rc S ((c.toList.drop off).take r.sz) x
 mono:=fun h ⟨b,off,c,E,fr,e1,e2,e3⟩=>by
  obtain⟨o',h4,h5⟩:=h _ _ e2
  obtain⟨c',rfl,h6⟩:=wN h5 (r.len e3)
  exact⟨b,off,c',E,fr,e1,h4,by rw [h6];exact r.mono h e3⟩

def Qr:List (Nat×List Value):=[]
def Qd(w:World):Prop:=True
structure jo(w:World)(S:SH):Prop where
 at_: ∀b o,S b=some o-> ∃o',w.heap[b]? =some o' /\Eb o o'
 gl: ∀p∈Qr,∃c hg fr,S p.1=some (.cells c hg fr)/\c.toList.take p.2.length=p.2
 tb: ∀w' :World,(∀b o,S b=some o-> ∃o',w'.heap[b]? =some o' /\Eb o o')->Qd w'
instance{w:World}{S:SH}:CoeFun (jo w S) (fun _=> ∀b o,S b=some o-> ∃o',w.heap[b]? =some o' /\Eb o o'):=⟨jo.at_⟩
variable{w:World}
def jo.lt(h:jo w S){b:Nat}{o:Obj}(k:S b=some o):b<w.heap.size:=let⟨_,Y,_⟩:=h b o k;(vx.1 Y).1
def jo.part(h:jo w S){b:Nat}{c:Array Value}{E:TypeId}(k:S b=some (.cells c E fr)){n:Nat}(hl:((c.toList.drop off).take n).length=n):
  ∃c',w.heap[b]? =some (.cells c' E fr)/\(c'.toList.drop off).take n=(c.toList.drop off).take n:=by
 obtain⟨o',Y,J⟩:=h b _ k
 obtain⟨c',rfl,Z⟩:=wN J hl
 exact⟨c',Y,Z⟩
variable{w' :World}
def jo.same(h:jo w S)(k: ∀b o,S b=some o->w'.heap[b]? =w.heap[b]?):jo w' S:=⟨fun b o e=>by rw [k b o e];exact h b o e,h.gl,h.tb⟩

def oT:Nat->Prop:=fun _=>False
structure gH(B:Nat->Prop)(w:World)(S:SH)(w' :World)(S' :SH):Prop where
 os:w'.os=w.os
 tape:w'.tape=w.tape
 output:w'.output=w.output
 drawn:w.drawn<=w'.drawn
 size:w.heap.size<=w'.heap.size
 heap: ∀k,k<w.heap.size-> ¬B k->w'.heap[k]? =w.heap[k]?
 keep:SH.le S S'
 old: ∀k,k<w.heap.size-> ¬B k->S' k=S k
def gH.refl(B:Nat->Prop)(w:World)(S:SH):gH B w S w S:=⟨rfl,rfl,rfl,iQ _,iQ _,fun _ _ _=>rfl,SH.le_refl _,fun _ _ _=>rfl⟩
variable{w'' :World}
def gH.trans{B:Nat->Prop}(h:gH B w S w' S')(k:gH B w' S' w'' S''):gH B w S w'' S'' :=
 ⟨k.os.trans h.os,k.tape.trans h.tape,k.output.trans h.output,xo h.drawn k.drawn,xo h.size k.size,
  fun i hi V=>(k.heap i (tU hi h.size) V).trans (h.heap i hi V),SH.le_trans h.keep k.keep,
  fun i hi V=>(k.old i (tU hi h.size) V).trans (h.old i hi V)⟩
variable{C:Nat->Prop}
def gH.step{B:Nat->Prop}(h:gH B w S w' S')(k:gH C w' S' w'' S'')(hC: ∀b,C b->w.heap.size<=b\/B b):gH B w S w'' S'' :=
 ⟨k.os.trans h.os,k.tape.trans h.tape,k.output.trans h.output,xo h.drawn k.drawn,xo h.size k.size,
  fun i hi V=>(k.heap i (tU hi h.size) (fun hc=>(hC i hc).elim (fun h=>by omega) V)).trans (h.heap i hi V),SH.le_trans h.keep k.keep,
  fun i hi V=>(k.old i (tU hi h.size) (fun hc=>(hC i hc).elim (fun h=>by omega) V)).trans (h.old i hi V)⟩
def gH.more{B:Nat->Prop}(h:gH B w S w' S')(k: ∀b,B b->C b):gH C w S w' S' :=
 ⟨h.os,h.tape,h.output,h.drawn,h.size,fun i hi V=>h.heap i hi (fun h=>V (k i h)),h.keep,fun i hi V=>h.old i hi (fun h=>V (k i h))⟩
def gH.step0{B:Nat->Prop}(h:gH B w S w' S')(k:gH oT w' S' w'' S''):gH B w S w'' S'' :=h.step k fun _ V=>V.elim

structure OE where
 fp:Nat->Prop
 p:World->SH->Prop
 here: ∀{w S},p w S-> ∀k,fp k->k<w.heap.size
 kept: ∀{C w w' S S'},p w S->gH C w S w' S' ->(∀k,fp k-> ¬C k)->p w' S'
def OE.holds(e:OE)(base:Nat)(B:Nat->Prop)(w:World)(S:SH):Prop:=e.p w S/\ ∀k,e.fp k->base<=k\/B k
def OE.apart(e f:OE):Prop:= ∀b,e.fp b-> ¬f.fp b
def cZ(base:Nat)(B:Nat->Prop)(w:World)(S:SH):List OE->Prop
 |[]=>True
 |e::O=>e.holds base B w S/\(∀f∈O,e.apart f)/\cZ base B w S O
def Dn{e:OE}{base:Nat}{B:Nat->Prop}(h:e.holds base B w S)(k:gH C w S w' S')(hC: ∀b,e.fp b-> ¬C b):e.holds base B w' S' :=⟨e.kept h.1 k hC,h.2⟩
variable{O:List OE}{f:FuncId}
def cZ.ext{base:Nat}{B:Nat->Prop}(k:gH C w S w' S'): ∀{O:List OE},cZ base B w S O->(∀e∈O,∀b,e.fp b-> ¬C b)->cZ base B w' S' O
 |[],_,_=>trivial
 |e::_,⟨Y,J,Z⟩,hC=>⟨Dn Y k (hC e (lK ..)),J,cZ.ext k Z fun f X=>hC f (mZ _ X)⟩
def cZ.ext0{base:Nat}{B:Nat->Prop}(k:gH oT w S w' S')(h:cZ base B w S O):cZ base B w' S' O:=
 h.ext k fun _ _ _ _ V=>V
def cZ.mem{base:Nat}{B:Nat->Prop}: ∀{O:List OE},cZ base B w S O-> ∀e∈O,e.holds base B w S
 |_::_,⟨Y,_,_⟩,_,.head _=>Y
 |_::_,⟨_,_,Z⟩,_,.tail _ hm=>cZ.mem Z _ hm

abbrev jM:=List (Nat×Ty)
def bJ:jM->Nat->Option Ty
 |[],_=>none
 |(k,t)::G,j=>bif Nat.beq k j then some t else bJ G j
structure Fr where
 n:Nat
 ds:List Deferred
structure cP(N:Fr)(S:SH)(a:Act)(G:jM):Prop where
 size:a.tmps.size=N.n
 defers:a.defers=N.ds
 at_: ∀k t,bJ G k=some t->t.p S (a.tmps.getD k undef)
variable{G:jM}{j:Nat}{t:Ty}
def cP.mono{N:Fr}(h:cP N S a G)(k:SH.le S S'):cP N S' a G:=⟨h.size,h.defers,fun j t e=>t.mono k (h.at_ j t e)⟩
def cP.sub{N:Fr}{G' :jM}(h:cP N S a G)(k: ∀j t,bJ G' j=some t->bJ G j=some t):cP N S a G' :=⟨h.size,h.defers,fun j t e=>h.at_ j t (k j t e)⟩
variable{u:OE}
def cP.put{N:Fr}(h:cP N S a G)(hd:Nat.blt d N.n=true)(hv:t.p S v):cP N S (a.put (some d) v) ((d,t)::G):=by
 have hd' :d<N.n:=by simpa [tA] using hd
 refine⟨by simp [Act.put,h.size],h.defers,fun j u e=>?_⟩
 unfold bJ at e
 by_cases hj:d=j
 ·subst hj
  have e' :t=u:=by simpa using e
  rw [e']at hv
  simp [Act.put,Dv,h.size,hd',hv]
 ·have V:Nat.beq d j=false:=by cases hh:Nat.beq d j with
   |false=>rfl
   |true=>exact absurd (nD hh) hj
  rw [V]at e
  have:=h.at_ j u e
  simpa [Act.put,Dv,Array.getElem?_setIfInBounds,hj] using this
def FH:jM->jM->Prop
 |[],_=>True
 |(k,t)::G',G=>bJ G k=some t/\FH G' G
def BL: ∀{G' G:jM},FH G' G-> ∀j t,bJ G' j=some t->bJ G j=some t
 |(k,t)::G',G,⟨Y,J⟩,j,u,e=>by
  unfold bJ at e
  by_cases V:Nat.beq k j=true
  ·rw [V]at e
   have:=nD V
   subst this
   simp only [cond_true]at e
   rw [<-e];exact Y
  ·rw [wp]at V
   rw [V]at e
   exact BL J j u e

def aE(N:Fr)(G:jM)(x:Operand)(t:Ty):Prop:= ∀S a,cP N S a G->t.p S (a.eval x)
def D{N:Fr}(h:bJ G k=some t):aE N G (.tmp k) t:=fun _ _ hF=>hF.at_ k t h
def hI{N:Fr}{k:IntKind}{n:Int}:aE N G (.const (.int k n)) (H (rI k) n):=fun _ _ _=>eZ.2 rfl
def hB{N:Fr}:aE N G (.const (.bool b)) (H rB b):=fun _ _ _=>i8.2 rfl
def hS{N:Fr}{s:Array UInt8}:aE N G (.const (.string ⟨s⟩)) (H rS s.toList):=fun _ _ _=>CC.2 rfl
def By{N:Fr}{r:Rp α}:aE N G (.const (.slice none 0 0)) (H (gy r) []):=fun _ _ _=>G3
def hV{N:Fr}:aE N G (.const v) (tV v):=fun _ _ _=>rfl

section
variable{P:Program}
end

def fw(r:Option Nat):Fence:={fn:=fun _=>True,depth:=none,alive:=false,round:=r}
variable{args:α->List Ty}
def ma{r:Option Nat}{n:Nat}{P:Program}{args:Array Value}{R:Ending->World->Prop}:CallsIn (fw r) n P f args w R↔Calls P f args w R:=callsIn_wide
def EJ{r:Option Nat}{n:Nat}:(fw r).depth.isSome=true->1<=n:=fun h=>by cases h
structure En where
 P:Program
 N:Fr
 B:Nat->Prop
 w0:World
 S0:SH
 r:Option Nat
def En.base(E:En):Nat:=E.w0.heap.size

def Ov(P:Program)(o:Oper)(a:Act)(af:Act->World->Prop):Result Next->Prop
 | .ok (.value v) w' =>af (a.put o.dst v) w'
 | .ok .skip w' =>af (a.put o.dst undef) w'
 | .ok (.enter f args) w' =>Calls P f args w' fun e w'' => ∃v,e= .returned v/\af (a.put o.dst v) w''
 | .ok (.round l f tmps assign body) w' =>RoundIn (fw none) 0 P l f tmps assign body w' fun e w'' => ∃v,e= .returned v/\af (a.put o.dst v) w''
 |_=>False
def Ea(P:Program)(o:Oper)(a:Act)(w:World)(af:Act->World->Prop):Prop:=(∀c,o.op≠ .defer c)/\Ov P o a af ((execOp a.eval o).run P w)
variable{l:Option Nat}
def FQ{r:Option Nat}{n:Nat}{P:Program}{l:Nat}{tmps:Array Value}{assign body:Code}{R:Ending->World->Prop}(h:RoundIn (fw none) 0 P l f tmps assign body w R):RoundIn (fw r) n P l f tmps assign body w R:=
 ⟨trivial,fun c cs _=>h.2 c cs (fun _ hd=>by cases hd)⟩
variable{af K' :Act->World->Prop}
def JJ{P:Program}(hK: ∀a w,af a w->K' a w){r:Result Next}(h:Ov P o a af r):Ov P o a K' r:=by
 cases r with
 |ok n w=>
  cases n<;>simp only [Ov]at h ⊢
  case value=>exact hK _ _ h
  case skip=>exact hK _ _ h
  case enter f args=>exact h.mono fun e w' ⟨v,he,hk⟩=>⟨v,he,hK _ _ hk⟩
  case round l f tmps assign body=>exact h.mono fun e w' ⟨v,he,hk⟩=>⟨v,he,hK _ _ hk⟩
 |halt x w=>simp only [Ov]at h
def mj{P:Program}(hK: ∀a w,af a w->K' a w)(h:Ea P o a w af):Ea P o a w K' :=⟨h.1,JJ hK h.2⟩
variable{Q:Exit->Act->World->Prop}{β:Type}{res:β->Ty}
def js{P:Program}{r:Option Nat}(hK: ∀a w,af a w->K' a w)(h:Ea P o a w af):o.wpIn (fw r) 0 P a w K' Q:=by
 obtain⟨hd,h⟩:=h
 refine⟨fun _ _=>trivial,?_⟩
 rw [Oper.semAt_eq _ _ _ hd]
 generalize (execOp a.eval o).run P w=res at h
 cases res with
 |ok n w=>
  cases n<;>simp only [Ov]at h<;>simp only [Oper.uponIn]
  case value=>exact hK _ _ h
  case skip=>exact hK _ _ h
  case enter f args=>exact⟨EJ,ma.2 (h.mono fun e w' ⟨v,he,hk⟩=>by subst he;exact hK _ _ hk)⟩
  case round l f tmps assign body=>exact⟨EJ,(FQ h).mono fun e w' ⟨v,he,hk⟩=>by subst he;exact hK _ _ hk⟩
 |halt x w=>simp only [Ov]at h

def bR(E:En)(O:List OE)(G:jM)(o:Oper)(t:Ty):Prop:=
 ∀a w S,jo w S->cZ E.base E.B w S O->cP E.N S a G->
  Ea E.P o a w (fun a' w' => ∃v S',a' =a.put o.dst v/\gH oT w S w' S' /\jo w' S' /\t.p S' v)
structure St(E:En)(O:List OE)(G:jM)(a:Act)(w:World)(S:SH):Prop where
 ext:gH E.B E.w0 E.S0 w S
 sat:jo w S
 own:cZ E.base E.B w S O
 facts:cP E.N S a G
def RG(E:En)(ops:Array Oper)(Q:Exit->Act->World->Prop)(l:List Oper)(O:List OE)(G:jM):Prop:= ∀a w S,St E O G a w S->wpListIn (fw E.r) 0 E.P ops Q l a w
def CG(E:En)(Q:Exit->Act->World->Prop)(c:Code)(O:List OE)(G:jM):Prop:= ∀a w S,St E O G a w S->c.wpIn (fw E.r) 0 E.P Q a w
def AT(E:En)(Q:Exit->Act->World->Prop)(e:Exit)(O:List OE)(G:jM):Prop:= ∀a w S,St E O G a w S->Q e a w

variable{after:Array Edge}{fn:Func}{ops:Array Oper}{pos:String}{ts:List Ty}{y:Operand}
section
variable{E:En}{G' :jM}{l:List Oper}
def St.step(h:St E O G a w S)(k:gH oT w S w' S')(hs:jo w' S')(hd:Nat.blt d E.N.n=true)(hv:t.p S' v):
  St E O ((d,t)::G) (a.put (some d) v) w' S' :=
 ⟨h.ext.step0 k,hs,h.own.ext0 k,(h.facts.mono k.keep).put hd hv⟩
def St.sub(h:St E O G a w S)(k:FH G' G):St E O G' a w S:=⟨h.ext,h.sat,h.own,h.facts.sub (BL k)⟩
def RG.of(T:o.guard=none)(h: ∀a w S,St E O G a w S->Ea E.P o a w (fun a' w' =>wpListIn (fw E.r) 0 E.P ops Q l a' w')):RG E ops Q (o::l) O G:=fun a w S st=>
 wpListIn_plain T fun _ hK=>js hK (h a w S st)

def sI{op:Op}{ty:TypeId}(h:bR E O G ⟨some d,op,ty,pos,after,none⟩ t)(hd:Nat.blt d E.N.n=true)(k:RG E ops Q l O ((d,t)::G)):
  RG E ops Q (⟨some d,op,ty,pos,after,none⟩::l) O G:= .of rfl fun a w S st=>
 mj (fun a' w' ⟨_,_,ha,he,hs,hv⟩=>by subst ha;exact k _ _ _ (st.step he hs hd hv)) (h a w S st.sat st.own st.facts)
def bq(h:AT E Q .normal O G):RG E ops Q [] O G:=fun a w S st=>h a w S st
def aG{id:Nat}{l:List Oper}(h:RG E l.toArray Q l O G):CG E Q (.region id l.toArray false) O G:=fun a w S st=>wpIn_region_lit (h a w S st)
def aJ{x y:Code}(h:CG E (Exit.then (y.wpIn (fw E.r) 0 E.P Q) Q) x O G):CG E Q (.seq x y) O G:=fun a w S st=>wpIn_seq (h a w S st)
def aB{y:Code}(h:CG E Q y O G):AT E (Exit.then (y.wpIn (fw E.r) 0 E.P Q) Q) .normal O G:=h
def cg(h:AT E Q .normal O G):CG E Q .skip O G:=fun a w S st=>wpIn_skip (h a w S st)
def il{id:Nat}(h:AT E Q (.exit id) O G):CG E Q (.exit id) O G:=fun a w S st=>wpIn_exit (h a w S st)
def lz(h:AT E Q .ret O G):CG E Q .ret O G:=fun a w S st=>wpIn_ret (h a w S st)
def Lf(h:CG E Q c O G')(k:FH G' G):CG E Q c O G:=fun a w S st=>h a w S (st.sub k)
def cT{e:Exit}(h:AT E Q e O G')(k:FH G' G):AT E Q e O G:=fun a w S st=>h a w S (st.sub k)
def pl{c:Operand}{x y:Code}(V:aE E.N G c (H rB b))(I:b=true->CG E Q x O G)(hy:b=false->CG E Q y O G):CG E Q (.cond c x y) O G:=fun a w S st=>by
 have hv:a.eval c= .bool b:=i8.1 (V S a st.facts)
 refine wpIn_cond hv ?_
 cases b with
 |true=>exact I rfl a w S st
 |false=>exact hy rfl a w S st
def av{id:Nat}(h:CG E (Exit.inBlock id Q) c O G):CG E Q (.block id c) O G:=fun a w S st=>wpIn_block (h a w S st)
def vY(r:Option Nat)(P:Program)(c:Code)(Q:Exit->Act->World->Prop)(a:Act)(w:World):Prop:=
 ∀(b:Frame) (k:List Item) (cs:List Frame),b.roundOf=r-> ∃e a' w',Q e a' w' /\ArrivesIn (Machine.fenced P (fw r)) P (lone (b.atR a (.code c:: .inLoop c::k)) cs w) b k cs e a' w'
def Ho{r:Option Nat}{n:Nat}:(fw r).room n:=fun _ hd=>by cases hd
def CA{r:Option Nat}{P:Program}{Q:Exit->Act->World->Prop}(h:vY r P c Q a w):(Code.loop c).wpIn (fw r) 0 P Q a w:=fun b k cs hro V hr=>
 let⟨e,a',w',hq,harr⟩:=h b k cs hro
 ⟨e,a',w',hq,.of_steps (.one (fenced_calm V hr rfl) stepR_loop) harr⟩
def Bv{r:Option Nat}{P:Program}{Q:Exit->Act->World->Prop}(h:c.wpIn (fw r) 0 P (Exit.then (vY r P c Q) Q) a w):vY r P c Q a w:=by
 intro b k cs hro
 obtain⟨e,a₁,w₁,hq,harr⟩:=h b (.inLoop c::k) cs hro trivial Ho
 cases e with
 |normal=>
  obtain⟨e₂,a₂,w₂,hq₂,harr₂⟩:=hq b k cs hro
  exact⟨e₂,a₂,w₂,hq₂,.of_steps (StepsIn.trans harr (.one (fenced_calm (n:=0) (F:=fw r) trivial Ho rfl) stepR_inLoop)) harr₂⟩
 |exit id=>exact⟨_,a₁,w₁,hq,.pass (x:= .inLoop c) rfl (fun _ _=> .inl (by simp)) harr⟩
 |goto l=>exact⟨_,a₁,w₁,hq,.pass (x:= .inLoop c) rfl (fun _ _=> .inl (by simp)) harr⟩
 |ret=>exact⟨_,a₁,w₁,hq,.pass (x:= .inLoop c) rfl (fun _ _=> .inl (by simp)) harr⟩
 |panic ch=>exact⟨_,a₁,w₁,hq,.pass (x:= .inLoop c) rfl (fun _ _=> .inl (by simp)) harr⟩
 |outgrown=>exact⟨_,a₁,w₁,hq,.pass (x:= .inLoop c) rfl (fun _ _=> .inl (by simp)) harr⟩
def LG(E:En)(Q:Exit->Act->World->Prop)(c:Code)(O:List OE)(G:jM):Prop:= ∀a w S,St E O G a w S->vY E.r E.P c Q a w
def ci(h:LG E Q c O G):CG E Q (.loop c) O G:=fun a w S st=>CA (h a w S st)
def kf(h:CG E (Exit.then (vY E.r E.P c Q) Q) c O G):LG E Q c O G:=fun a w S st=>Bv (h a w S st)
def aN(h:LG E Q c O G')(k:FH G' G):LG E Q c O G:=fun a w S st=>h a w S (st.sub k)
def bj(h:LG E Q c O G):AT E (Exit.then (vY E.r E.P c Q) Q) .normal O G:=h
def aL{id:Nat}(h:AT E Q (.exit id) O G):AT E (Exit.then af Q) (.exit id) O G:=h
def au(h:AT E Q .ret O G):AT E (Exit.then af Q) .ret O G:=h
def yj{id:Nat}(h:AT E Q .ret O G):AT E (Exit.inBlock id Q) .ret O G:=h
def bh{id:Nat}(h:AT E Q .normal O G):AT E (Exit.inBlock id Q) .normal O G:=h
def dM{id:Nat}(h:AT E Q .normal O G):AT E (Exit.inBlock id Q) (.exit id) O G:=fun a w S st=>by
 simp only [Exit.inBlock,fP];exact h a w S st
def bX{id id' :Nat}(hne:Nat.beq id' id=false)(h:AT E Q (.exit id') O G):AT E (Exit.inBlock id Q) (.exit id') O G:=fun a w S st=>by
 have:id' ≠id:=fun e=>by subst e;simp at hne
 simp only [Exit.inBlock,this,iB];exact h a w S st

def tM(S:SH):List Ty->List Value->Prop
 |[],[]=>True
 |t::ts,v::vs=>t.p S v/\tM S ts vs
 |_,_=>False
def tM.mono(h:SH.le S S'): ∀{ts:List Ty} {vs:List Value},tM S ts vs->tM S' ts vs
 |[],[],_=>trivial
 |t::_,_::_,⟨Y,J⟩=>⟨t.mono h Y,tM.mono h J⟩
def tM.length: ∀{ts:List Ty} {vs:List Value},tM S ts vs->vs.length=ts.length
 |[],[],_=>rfl
 |_::_,_::_,⟨_,J⟩=>by simp [tM.length J]
def cI(P:Program)(f:FuncId)(ts:List Ty)(t:Ty):Prop:=
 ∀w S vs,jo w S->tM S ts vs->Calls P f vs.toArray w fun e w' => ∃v S',e= .returned v/\gH oT w S w' S' /\jo w' S' /\t.p S' v
def EV(E:En)(t:Ty):Ending->World->Prop:=fun e w' => ∃v S',e= .returned v/\gH E.B E.w0 E.S0 w' S' /\jo w' S' /\t.p S' v
def sy(k:Nat):List Ty->jM
 |[]=>[]
 |t::ts=>(k,t)::sy (k+1) ts
def Ap: ∀(ts:List Ty) (k j:Nat) (t:Ty),bJ (sy k ts) j=some t-> ∃i,j=k+i/\ts[i]? =some t
 |[],_,_,_,h=>by simp [sy,bJ]at h
 |u::ts,k,j,t,h=>by
  unfold sy bJ at h
  by_cases V:Nat.beq k j=true
  ·rw [V]at h
   exact⟨0,by rw [nD V];rfl,by simpa using h⟩
  ·rw [wp]at V
   rw [V]at h
   obtain⟨i,Y,J⟩:=Ap ts (k+1) j t h
   exact⟨i+1,by omega,by simpa using J⟩
def tM.at_: ∀{ts:List Ty} {vs:List Value} (_:tM S ts vs) (i:Nat) (t:Ty),ts[i]? =some t-> ∃v,vs[i]? =some v/\t.p S v
 |_::_,v::_,⟨Y,_⟩,0,t,h=>⟨v,rfl,by simp at h;rw [<-h];exact Y⟩
 |_::ts,_::vs,⟨_,J⟩,i+1,t,h=>by simpa using tM.at_ J i t (by simpa using h)
def oX{vs:List Value}(h:tM S ts vs)(n:Nat)(hn:ts.length<=n):
  cP ⟨n,[]⟩ S {tmps:=vs.toArray++Array.replicate (n-vs.toArray.size) undef,defers:=[]} (sy 0 ts):=by
 have hl:=h.length
 refine⟨by simp;omega,rfl,fun j t hj=>?_⟩
 obtain⟨i,e,hi⟩:=Ap ts 0 j t hj
 have e' :j=i:=by omega
 subst e'
 obtain⟨v,hv,D⟩:=h.at_ j t hi
 have hlt:j<vs.length:=(qf.1 hv).1
 have:(vs.toArray++Array.replicate (n-vs.toArray.size) undef).getD j undef=v:=by
  rw [Dv,Array.getElem?_append_left (by simpa using hlt)]
  simp [hv]
 rw [this];exact D
def Dk{P:Program}(X:P.funcs[f]? =some fn)(V:fn.body=some c)(hn:ts.length<=fn.ntmps)(h: ∀w0 S0,CG ⟨P,⟨fn.ntmps,[]⟩,oT,w0,S0,none⟩ (bodyPost P fn (EV ⟨P,⟨fn.ntmps,[]⟩,oT,w0,S0,none⟩ t)) c [] (sy 0 ts)):cI P f ts t:=by
 intro w S vs hs hv
 exact ma.1 (callsIn_of_wp (F:=fw none) (n:=0) X V trivial (h w S _ w S ⟨gH.refl _ _ _,hs,trivial,oX hv _ hn⟩))
def m4(P:Program)(fn:Func)(k:Nat)(h:fn.results= #[.tmp k])(tmps:Array Value)(w:World):(results fn tmps).run P w= .ok (tmps.getD k undef) w:=by
 simp [results,h]
def bZ{P:Program}{N:Nat}{B:Nat->Prop}{w0:World}{S0:SH}(hr:fn.results= #[.tmp k])(hk:bJ G k=some t):
  AT ⟨P,⟨N,[]⟩,B,w0,S0,none⟩ (bodyPost P fn (EV ⟨P,⟨N,[]⟩,B,w0,S0,none⟩ t)) .ret O G:=fun _ _ S st=>
 ⟨st.facts.defers,_,m4 P fn k hr _ _,_,S,rfl,st.ext,st.sat,st.facts.at_ k t hk⟩
def tT(ts:List Ty):Ty where
 p:=fun S v=> ∃vs,v= .tuple vs.toArray/\tM S ts vs
 mono:=fun h k=>by obtain⟨vs,e,k⟩:=k;exact⟨vs,e,tM.mono h k⟩
def y5(P:Program)(fn:Func)(j k:Nat)(h:fn.results= #[.tmp j,.tmp k])(tmps:Array Value)(w:World):(results fn tmps).run P w= .ok (.tuple #[tmps.getD j undef,tmps.getD k undef]) w:=by
 simp [results,h]
def eW{P:Program}{N:Nat}{B:Nat->Prop}{w0:World}{S0:SH}{u:Ty}(hr:fn.results= #[.tmp j,.tmp k])(hj:bJ G j=some t)(hk:bJ G k=some u):
  AT ⟨P,⟨N,[]⟩,B,w0,S0,none⟩ (bodyPost P fn (EV ⟨P,⟨N,[]⟩,B,w0,S0,none⟩ (tT [t,u]))) .ret O G:=fun _ _ S st=>
 ⟨st.facts.defers,_,y5 P fn j k hr _ _,_,S,rfl,st.ext,st.sat,[_,_],rfl,st.facts.at_ j t hj,st.facts.at_ k u hk,trivial⟩
def xE(P:Program)(fn:Func)(h:fn.results= #[])(tmps:Array Value)(w:World):(results fn tmps).run P w= .ok (.tuple #[]) w:=by
 simp [results,h]
end

variable{dst:Option Tmp}{g:Option (Nat×Bool)}{xt yt:TypeId}
section
variable{E:En}{ty:TypeId}
def bR.of_run(h: ∀a w S,jo w S->cZ E.base E.B w S O->cP E.N S a G->
  ∃v w' S',(execOp a.eval o).run E.P w= .ok (.value v) w' /\gH oT w S w' S' /\jo w' S' /\t.p S' v)(hd: ∀c,o.op≠ .defer c:=by intro c h;cases h):bR E O G o t:=fun a w S hs ho X=>by
 obtain⟨v,w',S',hr,he,hs',hv⟩:=h a w S hs ho X
 refine⟨hd,?_⟩
 rw [hr]
 exact⟨v,S',rfl,he,hs',hv⟩
def bR.of_pure(h: ∀a w S,jo w S->cZ E.base E.B w S O->cP E.N S a G-> ∃v,(execOp a.eval o).run E.P w= .ok (.value v) w/\t.p S v)(hd: ∀c,o.op≠ .defer c:=by intro c h;cases h):bR E O G o t:=
 .of_run (fun a w S hs ho X=>let⟨v,hr,hv⟩:=h a w S hs ho X;⟨v,w,S,hr,gH.refl _ _ _,hs,hv⟩) hd

def cj(I:aE E.N G x t):bR E O G ⟨dst,.move x,ty,pos,after,g⟩ t:=
 .of_pure fun a _ S _ _ X=>⟨a.eval x,rfl,I S a X⟩
def bz(I:aE E.N G x t):bR E O G ⟨dst,.assign x,ty,pos,after,g⟩ t:=
 .of_pure fun a _ S _ _ X=>⟨a.eval x,rfl,I S a X⟩
def zf{c:Operand}(hc:aE E.N G c (H rB b))(I:b=true->aE E.N G x t)(hy:b=false->aE E.N G y t):bR E O G ⟨dst,.pick c x y,ty,pos,after,g⟩ t:=
 .of_pure fun a _ S _ _ X=>by
  have Y:a.eval c= .bool b:=i8.1 (hc S a X)
  refine⟨if b then a.eval x else a.eval y,by simp [execOp,Y,asBool],?_⟩
  cases b with
  |true=>exact I rfl S a X
  |false=>exact hy rfl S a X

section
variable{k:IntKind}{m n:Int}
def ET{P:Program}{op:BinOp}{xt:TypeId}{x y:Operand}{k k' :IntKind}{m n:Int}:(eqGuard op xt x y (.int k m) (.int k' n)).run P w= .ok () w:=by
 unfold eqGuard
 cases op<;>rfl
def ul{op:BinOp}(I:aE E.N G x (H (rI k) m))(hy:aE E.N G y (H (rI k) n))(hv: ∀P w,(binOp op xt (.int k m) (.int k n)).run P w= .ok v w)(D: ∀S,t.p S v):
  bR E O G ⟨dst,.binOp op xt x y yt,ty,pos,after,g⟩ t:=
 .of_pure fun a w S _ _ X=>by
  have Y:a.eval x= .int k m:=eZ.1 (I S a X)
  have J:a.eval y= .int k n:=eZ.1 (hy S a X)
  refine⟨v,?_,D S⟩
  simp [execOp,Y,J,ET,hv]
def lr(I:aE E.N G x (H (rI k) m))(hy:aE E.N G y (H (rI k) n)):bR E O G ⟨dst,.binOp .add xt x y yt,ty,pos,after,g⟩ (H (rI k) (k.wrap (m+n))):=
 ul I hy (fun _ _=>by simp [binOp,Op.intArith]) (fun _=>eZ.2 rfl)
def fN(I:aE E.N G x (H (rI k) m))(hy:aE E.N G y (H (rI k) n)):bR E O G ⟨dst,.binOp .sub xt x y yt,ty,pos,after,g⟩ (H (rI k) (k.wrap (m-n))):=
 ul I hy (fun _ _=>by simp [binOp,Op.intArith]) (fun _=>eZ.2 rfl)
def mE(I:aE E.N G x (H (rI k) m))(hy:aE E.N G y (H (rI k) n)):bR E O G ⟨dst,.binOp .lss xt x y yt,ty,pos,after,g⟩ (H rB (decide (m<n))):=
 ul I hy (fun _ _=>by simp [binOp,Op.intCmp]) (fun _=>i8.2 rfl)
def oS(I:aE E.N G x (H (rI k) m))(hy:aE E.N G y (H (rI k) n)):bR E O G ⟨dst,.binOp .leq xt x y yt,ty,pos,after,g⟩ (H rB (decide (m<=n))):=
 ul I hy (fun _ _=>by simp [binOp,Op.intCmp]) (fun _=>i8.2 rfl)
def s4(I:aE E.N G x (H (rI k) m))(hy:aE E.N G y (H (rI k) n)):bR E O G ⟨dst,.binOp .gtr xt x y yt,ty,pos,after,g⟩ (H rB (decide (n<m))):=
 ul I hy (fun _ _=>by simp [binOp,Op.intCmp]) (fun _=>i8.2 rfl)
def gz(I:aE E.N G x (H (rI k) m))(hy:aE E.N G y (H (rI k) n)):bR E O G ⟨dst,.binOp .geq xt x y yt,ty,pos,after,g⟩ (H rB (decide (n<=m))):=
 ul I hy (fun _ _=>by simp [binOp,Op.intCmp]) (fun _=>i8.2 rfl)
def jP(I:aE E.N G x (H (rI k) m))(hy:aE E.N G y (H (rI k) n)):bR E O G ⟨dst,.binOp .eql xt x y yt,ty,pos,after,g⟩ (H rB (m==n)):=
 ul I hy (fun _ _=>by simp [binOp,Op.intCmp]) (fun _=>i8.2 rfl)
def mn(I:aE E.N G x (H (rI k) m))(hy:aE E.N G y (H (rI k) n)):bR E O G ⟨dst,.binOp .neq xt x y yt,ty,pos,after,g⟩ (H rB (m !=n)):=
 ul I hy (fun _ _=>by simp [binOp,Op.intCmp]) (fun _=>i8.2 rfl)
def F7(I:aE E.N G x (H (rI k) m)):bR E O G ⟨dst,.unOp .neg xt x,ty,pos,after,g⟩ (H (rI k) (k.wrap (0-m))):=
 .of_pure fun a w S _ _ X=>by
  have Y:a.eval x= .int k m:=eZ.1 (I S a X)
  exact⟨.int k (k.wrap (0-m)),by simp [execOp,Y,Op.unary,Op.intArith],eZ.2 rfl⟩
def jn(I:aE E.N G x (H rB b)):bR E O G ⟨dst,.unOp .not xt x,ty,pos,after,g⟩ (H rB (!b)):=
 .of_pure fun a w S _ _ X=>by
  have Y:a.eval x= .bool b:=i8.1 (I S a X)
  exact⟨.bool (!b),by simp [execOp,Y,Op.unary],i8.2 rfl⟩
end

def wD{P:Program}{t:TypeId}{x y:Value}(V: ∀d,(Op.equalIn (d+1) t x y).run P w= .ok b w):(Op.equal t x y).run P w= .ok b w:=V 9999
end

def J7:TypeDesc->Bool
 | .struct _| .array _ _=>true
 |_=>false
structure TI(P:Program)(hg:TypeId)(sz bytes:Nat)(agg:Bool)(z:List Value):Prop where
 info:(P.info? hg).map (fun i=>(i.zero.map (·.cells.toList),i.size,i.bytes))=some (some z,sz,bytes)
 ag:(P.underlying hg).map J7=some agg
variable{hg:TypeId}{bytes:Nat}{z:List Value}
section
variable{P:Program}{sz:Nat}{agg:Bool}
def TI.get(h:TI P hg sz bytes agg z): ∃i zv,P.info? hg=some i/\i.size=sz/\i.bytes=bytes/\i.zero=some zv/\zv.cells=z.toArray:=by
 have:=h.info
 cases hi:P.info? hg with
 |none=>rw [hi]at this;simp at this
 |some i=>
  rw [hi]at this
  simp only [yn,Option.some.injEq,Prod.mk.injEq,Cu]at this
  obtain⟨⟨zv,Y,J⟩,Z,h4⟩:=this
  exact⟨i,zv,rfl,Z,h4,Y,by rw [<-J]⟩
def TI.sizeOf(h:TI P hg sz bytes agg z)(w:World):(Go.sizeOf hg).run P w= .ok sz w:=by
 obtain⟨i,zv,Y,J,_⟩:=h.get
 simp [Go.sizeOf,typeInfo,Y,J]
def TI.isAgg(h:TI P hg sz bytes agg z)(w:World):(Go.isAgg hg).run P w= .ok agg w:=by
 have:=h.ag
 cases hi:P.underlying hg with
 |none=>rw [hi]at this;simp at this
 |some d=>
  rw [hi]at this
  simp only [yn,Option.some.injEq]at this
  simp only [Go.isAgg,sP,jD hi,tS]
  rw [<-this]
  cases d<;>simp [J7]
def TI.zero(h:TI P hg sz bytes agg z)(w:World): ∃zv,(zeroValue hg).run P w= .ok zv w/\zv.cells=z.toArray:=by
 obtain⟨i,zv,Y,_,_,h4,h5⟩:=h.get
 exact⟨zv,by simp [zeroValue,typeInfo,Y,h4],h5⟩
end

def iA(b off i:Nat):(⟨b,off,none⟩:Addr).add i=⟨b,off+i,none⟩:=by
 unfold Addr.add
 split
 ·simp_all
 ·rfl
def xd{b:Nat}{c:Array Value}(h:w.heap[b]? =some (.cells c hg fr))(i:Nat):w.cell? ⟨b,i,none⟩=c[i]? :=by
 simp [World.cell?,h]
def xG{P:Program}{b n:Nat}{c:Array Value}(h:w.heap[b]? =some (.cells c hg fr))(hcs:(c.toList.drop off).take n=cs)(hl:cs.length=n):
  (loadCells ⟨b,off,none⟩ n).run P w= .ok cs.toArray w:=by
 rw [<-hl]
 refine run_loadCells_list w ⟨b,off,none⟩ cs fun j v hv=>?_
 rw [iA,xd h]
 have hj:j<cs.length:=(qf.1 hv).1
 rw [<-hcs,wr (by omega),tW]at hv
 simpa using hv
variable{U:TypeId}{rest:List Oper}
def i9{P:Program}{b:Nat}{c:Array Value}{sz:Nat}{agg:Bool}(ti:TI P U sz bytes agg z)(h:w.heap[b]? =some (.cells c hg fr)){r:Rp α}(hsz:r.sz=sz)(hag:r.agg=agg){x:α}(I:r.rc S ((c.toList.drop off).take r.sz) x):
  (loadVar U ⟨b,off,none⟩).run P w= .ok (r.val ((c.toList.drop off).take r.sz)) w:=by
 have hl:=r.len I
 subst hsz
 subst hag
 simp only [loadVar,sP,ti.isAgg,tS]
 cases ha:r.agg with
 |true=>simp [ti.sizeOf,xG h rfl hl,Rp.val,ha]
 |false=>
  have Y:=r.sc ha
  have hcell:w.cell? ⟨b,off,none⟩=some (((c.toList.drop off).take r.sz).headD undef):=by
   rw [xd h]
   rw [Y]at hl ⊢
   cases hd:c.toList.drop off with
   |nil=>rw [hd]at hl;simp at hl
   |cons v rest=>
    have:(c.toList.drop off)[0]? =some v:=by rw [hd];rfl
    rw [tW]at this
    simpa using this
  simp [hcell,Rp.val,ha]

variable{ats:Array TypeId}{q:Rp β}
section
variable{E:En}{ty:TypeId}
def ic{r:Rp α}{x:α}{p:Operand}{sz:Nat}{agg:Bool}(ti:TI E.P U sz bytes agg z)(hsz:r.sz=sz)(hag:r.agg=agg)(hp:aE E.N G p (bw r x)):
  bR E O G ⟨dst,.load U p,ty,pos,after,g⟩ (H r x):=
 .of_pure fun a w S hs _ X=>by
  obtain⟨b,off,c,hg,fr,Y,J,Z⟩:=hp S a X
  obtain⟨c',h4,h5⟩:=hs.part J (r.len Z)
  rw [<-h5]at Z
  refine⟨r.val ((c'.toList.drop off).take r.sz),?_,_,rfl,Z⟩
  simp [execOp,Y,Instr.loadAt,Instr.sureAddr,i9 ti h4 hsz hag Z]

def Nj(s:I6):(ByteArray.mk s.toArray).size=s.length:=by simp [ByteArray.size]
def j3{r:Rp α}{t:TypeId}(D:E.P.underlying t=some (.slice e))(I:aE E.N G x (H (gy r) xs)):
  bR E O G ⟨dst,.call ⟨.builtin .len,#[x],#[t]⟩,ty,pos,after,g⟩ (H (rI .i64) (xs.length:Int)):=
 .of_pure fun a w S _ _ X=>by
  obtain⟨ad,cap,Y,_⟩:=lC.1 (I S a X)
  refine⟨.int .i64 xs.length,?_,eZ.2 rfl⟩
  simp [execOp,resolve,invoke,builtin,Builtin.len_,jD D,Y,goInt]
def Hd{s:I6}{t:TypeId}(D:E.P.underlying t=some .string)(I:aE E.N G x (H rS s)):
  bR E O G ⟨dst,.call ⟨.builtin .len,#[x],#[t]⟩,ty,pos,after,g⟩ (H (rI .i64) (s.length:Int)):=
 .of_pure fun a w S _ _ X=>by
  have Y:a.eval x= .string ⟨s.toArray⟩:=CC.1 (I S a X)
  refine⟨.int .i64 s.length,?_,eZ.2 rfl⟩
  simp [execOp,resolve,invoke,builtin,Builtin.len_,jD D,Y,goInt,Nj]

def cQ{α:Type}(xs:List α)(i:Int):Option α:=if 0<=i then xs[i.toNat]? else none
def cw(xs:List α)(i:Nat):cQ xs (i:Int)=xs[i]? :=by simp [cQ]
def H4{r:Rp α}{a:Option Addr}(h:DO r S a xs){x:α}(I:xs[i]? =some x):
  ∃b off c hg fr,a=some ⟨b,off,none⟩/\S b=some (.cells c hg fr)/\r.rc S ((c.toList.drop (off+i*r.sz)).take r.sz) x:=by
 rcases h with rfl|⟨b,off,c,hg,fr,e1,e2,e3⟩
 ·simp at I
 ·refine⟨b,off,c,hg,fr,e1,e2,?_⟩
  have h:=s0 e3 I
  have hi:i<xs.length:=(qf.1 I).1
  rw [zj,vt,pX]at h
  have:min r.sz (xs.length*r.sz-i*r.sz)=r.sz:=by
   rw [<-Nat.sub_mul]
   have:1*r.sz<=(xs.length-i)*r.sz:=wq _ (by omega)
   omega
  rw [this]at h
  exact h
def bn{r:Rp α}{y:α}{ix:Operand}{t:TypeId}{k:IntKind}{i:Int}{sz:Nat}{agg:Bool}(D:E.P.underlying t=some (.slice e))(ti:TI E.P e sz bytes agg z)(hsz:r.sz=sz)(I:aE E.N G x (H (gy r) xs))(hi:aE E.N G ix (H (rI k) i))(hy:cQ xs i=some y):
  bR E O G ⟨dst,.indexAddr t x ix,ty,pos,after,g⟩ (bw r y):=
 .of_pure fun a w S _ _ X=>by
  obtain⟨ad,cap,Y,_,_,J⟩:=lC.1 (I S a X)
  have Z:a.eval ix= .int k i:=eZ.1 (hi S a X)
  have h0:0<=i:=by unfold cQ at hy;split at hy;assumption;cases hy
  have hy' :xs[i.toNat]? =some y:=by unfold cQ at hy;rw [bD h0]at hy;exact hy
  have hlt:i.toNat<xs.length:=(qf.1 hy').1
  obtain⟨b,off,c,hg,fr,e1,e2,e3⟩:=H4 J hy'
  subst e1
  refine⟨.pointer (some ⟨b,off+i.toNat*r.sz,none⟩),?_,b,_,c,hg,fr,rfl,e2,e3⟩
  have hc:0<=i/\i<(xs.length:Int):=⟨h0,by omega⟩
  simp [execOp,Y,Z,Instr.indexAt,asIntOf,jD D,hc,ti.sizeOf,iA,hsz]

def mf{α β:Type}(r:Rp α)(off:Nat)(q:Rp β)(get:α->β):Prop:= ∀S cs x,r.rc S cs x->q.rc S ((cs.drop off).take q.sz) (get x)
def cG(P:Program)(hg:TypeId)(i:Nat):Option (Nat×Nat):=
 match P.underlying hg with
 |some (.struct fs)=>(fs[i]?).bind fun f=>(P.info? f.type).map fun q=>(f.offset,q.size)
 |_=>none
def xH{P:Program}{sz:Nat}(h:cG P hg i=some (off,sz)): ∃fs f,P.underlying hg=some (.struct fs)/\fs[i]? =some f/\f.offset=off/\ ∀w,(sizeOf f.type).run P w= .ok sz w:=by
 unfold cG at h
 split at h
 ·rename_i fs hu
  cases X:fs[i]? with
  |none=>rw [X]at h;simp at h
  |some f=>
   rw [X]at h
   cases hq:P.info? f.type with
   |none=>simp [hq]at h
   |some q=>
    simp [hq]at h
    exact⟨fs,f,hu,X,h.1,fun w=>by simp [sizeOf,typeInfo,hq,h.2]⟩
 ·cases h
def iN{r:Rp α}{get:α->β}{x:α}{sz:Nat}{p:Operand}(X:cG E.P hg i=some (off,sz))(h0:Nat.beq sz 0=false)(hq:mf r off q get)(hoff:Nat.ble (off+q.sz) r.sz=true)(hp:aE E.N G p (bw r x)):bR E O G ⟨dst,.fieldAddr hg p i,ty,pos,after,g⟩ (bw q (get x)):=
 .of_pure fun a w S _ _ hF=>by
  obtain⟨b,o,c,U,fr,Y,J,Z⟩:=hp S a hF
  obtain⟨fs,f,e1,e2,e3,e4⟩:=xH X
  have h0' :sz≠0:=fun e=>by subst e;simp at h0
  have hoff' :off+q.sz<=r.sz:=po hoff
  refine⟨.pointer (some ⟨b,o+off,none⟩),?_,b,_,c,U,fr,rfl,J,?_⟩
  ·simp [execOp,Y,Instr.fieldAt,jD e1,e2,Instr.sureAddr,fieldPlace,e4,h0',e3,iA]
  ·have:=hq S _ x Z
   rw [zj,vt,pX,u3 (by omega)]at this
   exact this
def al(P:Program)(f:FuncId):Bool:=
 match P.funcs[f]? with
 |some fn=> !(fn.name== "runtime.NumGoroutine")&&fn.body.isSome
 |none=>false
def fj{P:Program}(h:al P f=true)(args:Array Value)(w:World):(callFunc f args).run P w= .ok (.enter f args) w:=by
 unfold al at h
 cases X:P.funcs[f]? with
 |none=>rw [X]at h;cases h
 |some fn=>
  rw [X]at h
  simp only [iX,yo]at h
  have Y:fn.name≠ "runtime.NumGoroutine" :=by simpa using h.1
  have J:fn.body≠none:=fun e=>by rw [e]at h;simp at h
  simp [callFunc,X,Y,J]
def hG(N:Fr)(G:jM):List Operand->List Ty->Prop
 |[],[]=>True
 |x::xs,t::ts=>aE N G x t/\hG N G xs ts
 |_,_=>False
def hG.tys{N:Fr}(hF:cP N S a G): ∀{xs:List Operand} {ts:List Ty},hG N G xs ts->tM S ts (xs.map a.eval)
 |[],[],_=>trivial
 |_::_,_::_,⟨Y,J⟩=>⟨Y S a hF,hG.tys hF J⟩
def ce{xs:List Operand}(hc:al E.P f=true)(hs:cI E.P f ts t)(I:hG E.N G xs ts):
  bR E O G ⟨dst,.call ⟨.value (.func f),xs.toArray,ats⟩,ty,pos,after,g⟩ t:=fun a w S hS _ hF=>by
 have hr:(execOp a.eval ⟨dst,.call ⟨.value (.func f),xs.toArray,ats⟩,ty,pos,after,g⟩).run E.P w= .ok (.enter f (xs.map a.eval).toArray) w:=by
  simp [execOp,resolve,Act.eval,Deferred.ofValue,invoke,fj hc]
 refine⟨fun c h=>(by cases h),?_⟩
 rw [hr]
 exact(hs w S _ hS (I.tys hF)).mono fun e w' ⟨v,S',he,Y,J,Z⟩=>⟨v,he,v,S',rfl,Y,J,Z⟩
end

def lh{o:Obj}(h:k<w.heap.size):(w.alloc o).heap[k]? =w.heap[k]? :=RowKit.Below.heap_alloc w o k h
def SH.set(S:SH)(b:Nat)(o:Obj):SH:=fun k=>if k=b then some o else S k
def nz(S:SH)(b:Nat)(o:Obj):S.set b o b=some o:=bD rfl
def o4(S:SH){b:Nat}(o:Obj)(h:k≠b):S.set b o k=S k:=bo h
def yf{b:Nat}{o:Obj}(h: ∀q,S b=some q->Eb q o):SH.le S (S.set b o):=fun k q hq=>by
 by_cases hk:k=b
 ·subst hk;exact⟨o,nz _ _ _,h q hq⟩
 ·exact⟨q,by rw [o4 _ _ hk];exact hq,qM q⟩
def jo.set(h:jo w S){b:Nat}{o:Obj}(Y:w.heap[b]? =some o')(J:Eb o o')(Z: ∀q,S b=some q->Eb q o):jo w (S.set b o):=by
 refine⟨fun k q hq=>?_,fun p hp=>?_,fun w' hw' =>h.tb w' fun k q hq=>?_⟩
 ·by_cases hk:k=b
  ·subst hk
   rw [nz]at hq
   cases hq
   exact⟨o',Y,J⟩
  ·rw [o4 _ _ hk]at hq;exact h k q hq
 ·obtain⟨c,hg,fr,g1,g2⟩:=h.gl p hp
  by_cases hk:p.1=b
  ·subst hk
   obtain⟨d,hd⟩:=Z _ g1
   refine⟨_,hg,fr,by rw [nz,hd],?_⟩
   rw [List.toList_toArray,vy ?_]
   ·exact g2
   ·have:=congrArg List.length g2
    rw [zm]at this
    omega
  ·exact⟨c,hg,fr,by rw [o4 _ _ hk];exact g1,g2⟩
 ·by_cases hk:k=b
  ·subst hk
   obtain⟨o1,g1,g2⟩:=hw' k o (nz _ _ _)
   exact⟨o1,g1,BT (Z q hq) g2⟩
  ·exact hw' k q (by rw [o4 _ _ hk];exact hq)
def ij(o:Obj)(hs:jo w S):gH oT w S (w.alloc o) S/\jo (w.alloc o) S/\S w.heap.size=none:=by
 refine⟨⟨rfl,rfl,rfl,iQ _,by simp,fun k hk _=>lh hk,SH.le_refl _,fun _ _ _=>rfl⟩,hs.same fun b q V=>lh (hs.lt V),?_⟩
 cases h:S w.heap.size with
 |none=>rfl
 |some q=>have:=hs.lt h;omega
def rA(o:Obj)(hs:jo w S):gH oT w S (w.alloc o) (S.set w.heap.size o)/\jo (w.alloc o) (S.set w.heap.size o):=by
 obtain⟨Y,J,Z⟩:=ij o hs
 refine⟨⟨rfl,rfl,rfl,iQ _,by simp,fun k hk _=>lh hk,yf fun q hq=>(by rw [Z]at hq;cases hq),fun k hk _=>o4 _ _ (by omega)⟩,J.set (wu w o) (qM o) fun q hq=>by rw [Z]at hq;cases hq⟩
def uF(hs:jo w S):gH oT w S w.drew S/\jo w.drew S:=⟨⟨rfl,rfl,rfl,Nat.le_succ _,iQ _,fun _ _ _=>rfl,SH.le_refl _,fun _ _ _=>rfl⟩,hs.same fun _ _ _=>rfl⟩

def aK(l:Option Nat)(cap n:Nat):Value:=
 match l with
 |none=> .slice none 0 0
 |some b=> .slice (some ⟨b,0,none⟩) n cap
def vp(w:World)(hg:TypeId)(sz:Nat)(l:Option Nat)(cap n:Nat)(cells:List Value):Prop:=
 match l with
 |none=>n=0/\cells=[]
 |some b=> ∃cur,w.heap[b]? =some (.cells cur hg (0,0))/\n<=cap/\cap<=maxLen/\cur.size=cap*sz/\cur.toList.take (n*sz)=cells
def za{α:Type}(m:Bool)(r:Rp α)(hg:TypeId)(l:Option Nat)(cap:Nat)(xs:List α)(w:World)(S:SH):Prop:=
 ∃cells,vp w hg r.sz l cap xs.length cells/\qK r S cells xs/\ ∀b,l=some b->S b=if m then some (.cells cells.toArray hg (0,0))else none
def vp.lt{sz b n:Nat}(h:vp w hg sz (some b) cap n cells):b<w.heap.size:=by
 obtain⟨cur,Y,_⟩:=h
 exact(vx.1 Y).1
def vp.ext{sz n:Nat}(h:vp w hg sz l cap n cells)(k: ∀b,l=some b->w'.heap[b]? =w.heap[b]?):vp w' hg sz l cap n cells:=by
 cases l with
 |none=>exact h
 |some b=>
  obtain⟨cur,Y,J⟩:=h
  exact⟨cur,by rw [k b rfl];exact Y,J⟩
def jJ{α:Type}(m:Bool)(r:Rp α)(hg:TypeId)(l:Option Nat)(cap:Nat)(xs:List α):OE where
 fp:=fun k=>l=some k
 p:=za m r hg l cap xs
 here:=by
  intro w S h k hk
  subst hk
  obtain⟨cells,Y,_⟩:=h
  exact Y.lt
 kept:=by
  intro C w w' S S' h k hC
  obtain⟨cells,Y,J,Z⟩:=h
  refine⟨cells,Y.ext fun b V=>?_,qJ k.keep J,fun b V=>?_⟩
  ·subst V;exact k.heap b Y.lt (hC b rfl)
  ·subst V;rw [k.old b Y.lt (hC b rfl)];exact Z b rfl
abbrev fi{α:Type}(r:Rp α)(hg:TypeId)(l:Option Nat)(cap:Nat)(xs:List α):OE:=jJ false r hg l cap xs
abbrev gT{α:Type}(r:Rp α)(hg:TypeId)(l:Option Nat)(cap:Nat)(xs:List α):OE:=jJ true r hg l cap xs
def jp{α:Type}(xs ys:List α):Option (List α):=if xs.length+ys.length<=68719476736 then some (xs++ys)else none
variable{zs:List α}
def K4(h:jp xs ys=some zs):zs=xs++ys/\xs.length+ys.length<=68719476736:=by
 unfold jp at h
 split at h
 ·exact⟨by simpa using h.symm,by assumption⟩
 ·cases h
variable{news:List Value}
def u6{P:Program}{t tx ty:TypeId}{i:TypeInfo}(D:P.underlying t=some (.slice e))(hi:P.info? e=some i){g sLen sCap:Nat}{cur:Array Value}(T:w.heap[g]? =some (.cells cur e (0,0))){x:Value}{n:Nat}(hs:Src P i.size tx x n news w)(hroom:sLen+n<=sCap)(hfit:sLen*i.size+news.length<=cur.size):
  (Builtin.append_ #[t,tx] ty #[.slice (some ⟨g,0,none⟩) sLen sCap,x]).run P w=
   .ok (.slice (some ⟨g,0,none⟩) (sLen+n) sCap) (w.setRow g (cur.toList.take (sLen*i.size)++news++cur.toList.drop (sLen*i.size+news.length)).toArray):=by
 have hst:=run_storeCells_at P g (sLen*i.size) e news 0 cur w T (by simpa using hfit) hs.one
 simp only [tP]at hst
 rcases hs.kind with⟨e',hk⟩|hk<;>simp [Builtin.append_,jD D,jD hk,sizeOf,typeInfo,hi,hs.len,hroom,hs.cells,Addr.add_lit,hst]
structure NZ(l:Option Nat)(w w' :World):Prop where
 os:w'.os=w.os
 tape:w'.tape=w.tape
 output:w'.output=w.output
 drawn:w.drawn<=w'.drawn
 size:w.heap.size<=w'.heap.size
 heap: ∀k,k<w.heap.size->l≠some k->w'.heap[k]? =w.heap[k]?
variable{t' :TypeId}
def z8{P:Program}{t ty:TypeId}{sz:Nat}{agg:Bool}{n m:Nat}{x:Value}(ti:TI P hg sz bytes agg z)(hz:Nat.beq z.length sz=true)(h0:Nat.blt 0 sz=true)(h128:Nat.ble bytes 2048=true)(D:P.underlying t=some (.slice hg))(h:vp w hg sz l cap n cells)(hs:Src P sz t' x m news w)(hlen:n+m<=68719476736):
  ∃l' cap' w',(Builtin.append_ #[t,t'] ty #[aK l cap n,x]).run P w= .ok (aK l' cap' (n+m)) w' /\vp w' hg sz l' cap' (n+m) (cells++news)/\NZ l w w' /\(∀b,l' =some b->l=some b\/w.heap.size<=b)/\(∀b,l=some b->l' ≠some b->w'.heap[b]? =w.heap[b]?):=by
 obtain⟨i,zv,hi,Y,J,Z,h4⟩:=ti.get
 have h128' :=po h128
 have h0' :0<sz:=by simpa [tA] using h0
 have hz2:z.length=sz:=nD hz
 subst Y
 have hnl:=hs.newsLen
 have hbytes:(n+m)*i.bytes<=140737488355328:=xo (Nat.mul_le_mul hlen (by omega:i.bytes<=2048)) (by omega)
 by_cases hm:m=0
 ·subst hm
  have hn0:news=[]:=tX (by simpa using hnl)
  subst hn0
  refine⟨l,cap,w,?_,by simpa using h,⟨rfl,rfl,rfl,iQ _,iQ _,fun _ _ _=>rfl⟩,fun b V=> .inl V,fun b _ _=>rfl⟩
  cases l with
  |none=>
   obtain⟨rfl,_⟩:=h
   exact run_append_nothing w t t' ty hg i D hi none 0 0 (iQ _) _ hs
  |some b=>
   obtain⟨cur,_,hle,_⟩:=h
   exact run_append_nothing w t t' ty hg i D hi (some ⟨b,0,none⟩) n cap hle _ hs
 have OM: ∀old,old<n+m->Builtin.nextslicecap (n+m) old*i.bytes<=281474976710656:=fun old ho=>growslice_fits ho hbytes
 -- a new row
 have fresh: ∀(base:Option Addr) (olds:List Value),aK l cap n= .slice base n cap->olds=cells->cap<n+m->(Builtin.firstCells i.size n (.slice base n cap)).run P w.drew= .ok olds.toArray w.drew->cells.length=n*i.size->
   ∃l' cap' w',(Builtin.append_ #[t,t'] ty #[aK l cap n,x]).run P w= .ok (aK l' cap' (n+m)) w' /\vp w' hg i.size l' cap' (n+m) (cells++news)/\NZ l w w' /\(∀b,l' =some b->l=some b\/w.heap.size<=b)/\(∀b,l=some b->l' ≠some b->w'.heap[b]? =w.heap[b]?):=by
  intro base olds hv he T X hcl
  subst he
  have hr:=run_append_grow_src (P:=P) w t t' ty hg i zv D hi Z base n cap olds X x m news hs T (by omega) (OM cap T)
  have hge:=grownCap_ge w (n+m) cap hg
  rw [<-hv]at hr
  refine⟨some w.heap.size,grownCap w (n+m) cap hg,_,hr,⟨_,wu w.drew _,hge,grownCap_le_maxLen _ _ _ _ (by simp only [maxLen];omega),?_,?_⟩,⟨rfl,rfl,rfl,Nat.le_succ _,by simp,fun k hk _=>?_⟩,fun b V=> .inr (zq (pZ V)),fun b V _=>?_⟩
  ·have:(Builtin.zeroCells zv.cells (grownCap w (n+m) cap hg-(n+m))).size=(grownCap w (n+m) cap hg-(n+m))*i.size:=by
    rw [size_zeroCells,h4];simp [hz2]
   simp only [Array.size_append,BF,jE,hcl,hnl,this]
   rw [<-tN,<-tN]
   congr 1;omega
  ·have hl2:(olds++news).length=(n+m)*i.size:=by rw [jE,hcl,hnl,tN]
   rw [Array.toList_append,vy (by simp only [List.toList_toArray];omega)]
   simp only [List.toList_toArray]
   exact nE (by omega)
  ·exact lh (w:=w.drew) hk
  ·cases l with
   |none=>cases V
   |some b0=>
    have hb' :b0=b:=pZ V
    subst hb'
    exact lh (w:=w.drew) (vp.lt h)
 cases l with
 |none=>
  obtain⟨rfl,rfl⟩:=h
  have:=run_append_grow_src (P:=P) w t t' ty hg i zv D hi Z none 0 0 [] (run_firstCells_none w.drew i.size 0 0 0) x m news hs (by omega) (by omega) (OM 0 (by omega))
  have hge:=grownCap_ge w (0+m) 0 hg
  refine⟨some w.heap.size,grownCap w (0+m) 0 hg,_,this,⟨_,wu w.drew _,hge,grownCap_le_maxLen _ _ _ _ (by simp only [maxLen];omega),?_,?_⟩,⟨rfl,rfl,rfl,Nat.le_succ _,by simp,fun k hk _=>?_⟩,fun b V=> .inr (zq (pZ V)),fun b V=>(by cases V)⟩
  ·have:(Builtin.zeroCells zv.cells (grownCap w (0+m) 0 hg-(0+m))).size=(grownCap w (0+m) 0 hg-(0+m))*i.size:=by
    rw [size_zeroCells,h4];simp [hz2]
   simp only [Array.size_append,BF,iW,hnl,this]
   rw [<-tN]
   congr 1;omega
  ·rw [Array.toList_append,vy (by simp [hnl])]
   simp only [iW,pL]
   exact nE (by omega)
  ·exact lh (w:=w.drew) hk
 |some b=>
  obtain⟨cur,V,hle,hmax,hcs,hct⟩:=h
  have hcl:cells.length=n*i.size:=by
   rw [<-hct,zm,yq,hcs]
   exact u3 (wq _ hle)
  by_cases hroom:n+m<=cap
  ·have hfit:n*i.size+news.length<=cur.size:=by rw [hnl,hcs,<-tN];exact wq _ hroom
   have hr:=u6 (t:=t) (tx:=t') (ty:=ty) D hi V hs hroom hfit
   refine⟨some b,cap,_,hr,⟨_,setRow_heap w b cur _ hg _ V,hroom,hmax,?_,?_⟩,⟨rfl,rfl,rfl,iQ _,by simp [World.setRow],fun k hk hkb=>setRow_other w b k _ (fun e=>hkb (by rw [e]))⟩,fun b' hb' => .inl hb',fun b' hb' hne=>absurd hb' hne⟩
   ·simp only [BF,jE,zm,Bc,yq]
    omega
   ·rw [hct,tN,<-hnl,<-hcl,show cells.length+news.length=(cells++news).length from by simp]
    exact List.take_left
  ·refine fresh (some ⟨b,0,none⟩) cells rfl rfl (by omega) (run_firstCells_some w.drew i.size n ⟨b,0,none⟩ n cap cells hcl fun j v hv=>?_) hcl
   have hj:j<cells.length:=(qf.1 hv).1
   have hcell:w.cell? ⟨b,j,none⟩=cur[j]? :=xd V j
   rw [iA]
   show w.cell? ⟨b,0+j,none⟩=_
   rw [pL,hcell]
   rw [<-hct,wr (by omega)]at hv
   simpa using hv
def t7{P:Program}{r:Rp α}{e' :TypeId}(D:P.underlying t' =some (.slice e'))(hs:jo w S)(hv:(H (gy r) ys).p S v): ∃news,Src P r.sz t' v ys.length news w/\qK r S news ys:=by
 obtain⟨ad,c2,rfl,hcap,hmax,hsl⟩:=lC.1 hv
 rcases hsl with rfl|⟨b,off,c,U,fr,e1,e2,e3⟩
 ·refine⟨[],?_,rfl⟩
  cases ad with
  |none=>exact .ofNil w D c2
  |some a=>exact .ofSlice w D a 0 c2 [] (by simp) (fun j u hu=>by simp at hu) (fun u hu=>by cases hu)
 ·subst e1
  obtain⟨c',h4,h5⟩:=hs.part e2 (mi e3)
  refine⟨_,.ofSlice w D ⟨b,off,none⟩ ys.length c2 _ (mi e3) (fun j u hu=>?_) (ze e3),e3⟩
  rw [iA,xd h4]
  rw [<-h5]at hu
  have hj:j<ys.length*r.sz:=by
   have:=(qf.1 hu).1
   simp at this;omega
  rw [wr hj,tW]at hu
  simpa using hu
variable{mm:Bool}
def ug{P:Program}{r:Rp α}{t ty:TypeId}{sz:Nat}{agg:Bool}{base:Nat}{B:Nat->Prop}(ti:TI P hg sz bytes agg z)(hsz:r.sz=sz)(hz:Nat.beq z.length sz=true)(h0:Nat.blt 0 sz=true)(h128:Nat.ble bytes 2048=true)(D:P.underlying t=some (.slice hg))(hs:jo w S)(h:(jJ mm r hg l cap xs).holds base B w S)(V:base<=w.heap.size)(hsrc:Src P r.sz t' v ys.length news w)(hrc:qK r S news ys)(hz' :jp xs ys=some zs):
  ∃l' cap' w' S',(Builtin.append_ #[t,t'] ty #[aK l cap xs.length,v]).run P w= .ok (aK l' cap' zs.length) w' /\gH (fun k=>l=some k) w S w' S' /\jo w' S' /\(jJ mm r hg l' cap' zs).holds base B w' S' /\(∀b,l' =some b->l=some b\/w.heap.size<=b):=by
 subst hsz
 obtain⟨rfl,hlen⟩:=K4 hz'
 obtain⟨⟨cells,Y,J,Z⟩,hbase⟩:=h
 obtain⟨l',cap',w',hr,hraw,T,hnew,hold⟩:=z8 (ty:=ty) ti hz h0 h128 D Y hsrc hlen
 have hrc' :qK r S (cells++news) (xs++ys):=s3 J hrc
 -- what stood settled stands
 have hsat0: ∀k o,S k=some o-> ∃o',w'.heap[k]? =some o' /\Eb o o' :=fun k o hk=>by
  have hlt:=hs.lt hk
  by_cases hkl:l=some k
  ·obtain⟨o',e1,e2⟩:=hs k o hk
   by_cases hkl' :l' =some k
   ·subst hkl'
    subst hkl
    have h3' :=Z k rfl
    cases mm with
    |false=>rw [h3']at hk;cases hk
    |true=>
     rw [h3']at hk
     cases hk
     obtain⟨cur',g1,g2,g3,g4,g5⟩:=hraw
     refine⟨_,g1,?_⟩;refine⟨news++cur'.toList.drop ((xs.length+ys.length)*r.sz),?_⟩
     congr 1
     apply Array.ext'
     rw [<-jr,<-g5,r0]
   ·rw [hold k hkl hkl'];exact hs k o hk
  ·rw [T.heap k hlt hkl];exact hs k o hk
 have hsat:jo w' S:=⟨hsat0,hs.gl,hs.tb⟩
 have hSn: ∀b,l' =some b->l≠some b->S b=none:=fun b hb' hne=>by
  cases hq:S b with
  |none=>rfl
  |some q=>
   have:=hs.lt hq
   rcases hnew b hb' with h|h
   ·exact absurd h hne
   ·omega
 have hbase' : ∀k,l' =some k->base<=k\/B k:=fun k hk=>by
  rcases hnew k hk with h|h
  ·exact hbase k h
  ·exact .inl (by omega)
 have hz2:(xs++ys).length=xs.length+ys.length:=jE
 cases mm with
 |false=>
  refine⟨l',cap',w',S,by rw [hz2];exact hr,⟨T.os,T.tape,T.output,T.drawn,T.size,fun k hk hkb=>T.heap k hk hkb,SH.le_refl _,fun _ _ _=>rfl⟩,hsat,⟨⟨cells++news,by rw [hz2];exact hraw,hrc',fun b hb' =>?_⟩,hbase'⟩,hnew⟩
  by_cases hlb:l=some b
  ·exact Z b hlb
  ·exact hSn b hb' hlb
 |true=>
  cases l' with
  |none=>
   refine⟨none,cap',w',S,by rw [hz2];exact hr,⟨T.os,T.tape,T.output,T.drawn,T.size,fun k hk hkb=>T.heap k hk hkb,SH.le_refl _,fun _ _ _=>rfl⟩,hsat,⟨⟨cells++news,by rw [hz2];exact hraw,hrc',fun b hb' =>(by cases hb')⟩,hbase'⟩,hnew⟩
  |some g=>
   have hq3: ∀q,S g=some q->Eb q (.cells (cells++news).toArray hg (0,0)):=fun q hq=>by
    by_cases hlb:l=some g
    ·have h4:S g=some (.cells cells.toArray hg (0,0)):=Z g hlb
     rw [h4]at hq
     cases hq
     exact⟨news,by simp⟩
    ·rw [hSn g rfl hlb]at hq;cases hq
   have hle:SH.le S (S.set g (.cells (cells++news).toArray hg (0,0))):=yf hq3
   obtain⟨cur',g1,g2,g3,g4,g5⟩:=hraw
   refine⟨some g,cap',w',S.set g (.cells (cells++news).toArray hg (0,0)),by rw [hz2];exact hr,⟨T.os,T.tape,T.output,T.drawn,T.size,fun k hk hkb=>T.heap k hk hkb,hle,fun k hk hkb=>o4 _ _ ?_⟩,hsat.set g1 ?_ hq3,⟨⟨cells++news,by rw [hz2];exact⟨cur',g1,g2,g3,g4,g5⟩,qJ hle hrc',fun b hb' =>?_⟩,hbase'⟩,hnew⟩
   ·rintro rfl
    rcases hnew k rfl with h|h
    ·exact hkb h
    ·omega
   ·refine⟨cur'.toList.drop ((xs.length+ys.length)*r.sz),?_⟩
    congr 1
    apply Array.ext'
    rw [<-g5,r0]
   ·have hb2:g=b:=pZ hb'
    subst hb2
    exact nz _ _ _

def GI{e f:OE}(h:e.apart f):f.apart e:=fun b V he=>h b he V
def cZ.swap{base:Nat}{B:Nat->Prop}{e f:OE}(h:cZ base B w S (e::f::O)):cZ base B w S (f::e::O):=by
 obtain⟨Y,J,Z,h4,h5⟩:=h
 refine⟨Z,?_,Y,?_,h5⟩
 ·intro g T
  rcases fT.1 T with rfl|T
  ·exact GI (J _ (lK ..))
  ·exact h4 g T
 ·intro g T
  exact J g (mZ _ T)
def sJ{base:Nat}{B:Nat->Prop}{e:OE}{O' :List OE}(h:cZ base B w S (e::O))(k:cZ base B w S O->cZ base B w S O')(hm: ∀f∈O',f∈O):cZ base B w S (e::O'):=
 ⟨h.1,fun f X=>h.2.1 f (hm f X),k h.2.2⟩
def qW{base:Nat}{B:Nat->Prop}{a b c:OE}(h:cZ base B w S (a::b::c::O)):cZ base B w S (c::a::b::O):=
 (sJ h cZ.swap (fun f X=>by simp only [fT]at X ⊢;rcases X with h|h|h<;>simp [h])).swap
def qV{base:Nat}{B:Nat->Prop}{a b c d:OE}(h:cZ base B w S (a::b::c::d::O)):cZ base B w S (d::a::b::c::O):=
 (sJ h qW (fun f X=>by simp only [fT]at X ⊢;rcases X with h|h|h|h<;>simp [h])).swap
def qU{base:Nat}{B:Nat->Prop}{a b c d e:OE}(h:cZ base B w S (a::b::c::d::e::O)):cZ base B w S (e::a::b::c::d::O):=
 (sJ h qV (fun f X=>by simp only [fT]at X ⊢;rcases X with h|h|h|h|h<;>simp [h])).swap

section
variable{E:En}
def St.own_map{O' :List OE}(h:St E O G a w S)(k:cZ E.base E.B w S O->cZ E.base E.B w S O'):St E O' G a w S:=⟨h.ext,h.sat,k h.own,h.facts⟩
def St.base_le(h:St E O G a w S):E.base<=w.heap.size:=h.ext.size
def St.drop{e:OE}(h:St E (e::O) G a w S):St E O G a w S:=h.own_map fun h=>h.2.2
def St.fresh(mm:Bool)(r:Rp α)(hg:TypeId)(h:St E O G a w S):St E (jJ mm r hg none 0 []::O) G a w S:=
 h.own_map fun h=>by refine⟨⟨⟨[],⟨rfl,rfl⟩,rfl,fun b V=>(by cases V)⟩,fun k hk=>?_⟩,fun f _ b V=>?_,h⟩<;>(first|cases hk|cases V)
def sX{e:OE}{b:Nat}{o:Obj}(h:St E (e::O) G a w S)(V:e.fp b)(ho:w.heap[b]? =some o')(hoo:Eb o o')(hn:S b=none):St E O G a w (S.set b o)/\SH.le S (S.set b o)/\gH (fun k=>k=b) w S w (S.set b o)/\jo w (S.set b o):=by
 have hbase:=h.own.1.2 b V
 have hle:SH.le S (S.set b o):=yf fun q hq=>(by rw [hn]at hq;cases hq)
 have hsat:jo w (S.set b o):=h.sat.set ho hoo fun q hq=>by rw [hn]at hq;cases hq
 have hext:gH (fun k=>k=b) w S w (S.set b o):=⟨rfl,rfl,rfl,iQ _,iQ _,fun _ _ _=>rfl,hle,fun k _ hk=>o4 _ _ hk⟩
 refine⟨⟨h.ext.step hext fun c hc=>by subst hc;exact hbase,hsat,h.own.2.2.ext hext fun f X c hc hm=>?_,h.facts.mono hle⟩,hle,hext,hsat⟩
 subst hm
 exact h.own.2.1 f X c V hc
def tO{α:Type}(r:Rp α)(l:Option Nat)(cap:Nat)(xs:List α):Ty where
 p:=fun S v=>v=aK l cap xs.length/\(H (gy r) xs).p S v
 mono:=fun h ⟨Y,J⟩=>⟨Y,Ty.mono _ h J⟩
def wy{N:Fr}{G:jM}{r:Rp α}(h:aE N G x (tO r l cap xs)):aE N G x (tV (aK l cap xs.length)):=fun S a X=>(h S a X).1
def mD{N:Fr}{G:jM}{r:Rp α}(h:aE N G x (tO r l cap xs)):aE N G x (H (gy r) xs):=fun S a X=>(h S a X).2
def pw{r:Rp α}{w:World}{S:SH}(h:za true r hg l cap xs w S):(H (gy r) xs).p S (aK l cap xs.length):=by
 obtain⟨cells,Y,J,Z⟩:=h
 cases l with
 |none=>
  have I:xs=[]:=tX Y.1
  subst I
  exact G3
 |some b=>
  obtain⟨cur,g1,g2,g3,g4,g5⟩:=Y
  refine lC.2 ⟨_,cap,rfl,g2,g3,.inr ⟨b,0,cells.toArray,hg,(0,0),rfl,Z b rfl,?_⟩⟩
  have:=mi J
  rw [tQ,nE (by simp [this])]
  exact J
def St.freeze{r:Rp α}(h:St E (fi r hg l cap xs::O) G a w S):
  ∃S',St E (gT r hg l cap xs::O) G a w S' :=by
 obtain⟨⟨cells,Y,J,Z⟩,hbase⟩:=h.own.1
 cases l with
 |none=>exact⟨S,h.ext,h.sat,⟨⟨⟨cells,Y,J,fun b V=>(by cases V)⟩,hbase⟩,h.own.2⟩,h.facts⟩
 |some b=>
  obtain⟨cur,g1,g2,g3,g4,g5⟩:=Y
  have hoo:Eb (.cells cells.toArray hg (0,0)) (.cells cur hg (0,0)):=by
   refine⟨cur.toList.drop (xs.length*r.sz),?_⟩
   congr 1
   apply Array.ext'
   rw [<-g5,r0]
  obtain⟨h8,hle,_,_⟩:=sX h rfl g1 hoo (Z b rfl)
  refine⟨_,h8.ext,h8.sat,⟨⟨⟨cells,⟨cur,g1,g2,g3,g4,g5⟩,qJ hle J,fun b' hb' =>?_⟩,hbase⟩,h.own.2.1,h8.own⟩,h8.facts⟩
  have hb2:b=b' :=pZ hb'
  subst hb2
  exact nz _ _ _
def St.settle{r:Rp α}(h:St E (jJ mm r hg l cap xs::O) G a w S):
  ∃S',St E O G a w S' /\(H (gy r) xs).p S' (aK l cap xs.length):=by
 cases mm with
 |true=>exact⟨S,h.drop,pw h.own.1.1⟩
 |false=>
  obtain⟨S',Y⟩:=h.freeze
  exact⟨S',Y.drop,pw Y.own.1.1⟩
end

section
variable{E:En}{e:Exit}
def Gn{N:Fr}(h:cP N S a G)(hk:t.p S (a.tmps.getD k undef)):cP N S a ((k,t)::G):=
 ⟨h.size,h.defers,fun j u hj=>by
  unfold bJ at hj
  by_cases V:Nat.beq k j=true
  ·rw [V]at hj
   have:=nD V
   subst this
   rw [<-show t=u from by simpa using hj];exact hk
  ·rw [wp]at V
   rw [V]at hj
   exact h.at_ j u hj⟩
def St.cons(h:St E O G a w S)(hk:t.p S (a.tmps.getD k undef)):St E O ((k,t)::G) a w S:=⟨h.ext,h.sat,h.own,Gn h.facts hk⟩
def St.tipAt{r:Rp α}{n:Nat}(h:St E (gT r hg l cap xs::O) G a w S)(hk:bJ G k=some (tV (aK l cap n)))(hn:n=xs.length):
  St E (gT r hg l cap xs::O) ((k,tO r l cap xs)::G) a w S:=by
 subst hn
 have hv:a.tmps.getD k undef=aK l cap xs.length:=h.facts.at_ k _ hk
 exact h.cons ⟨hv,by rw [hv];exact pw h.own.1.1⟩
def bC(mm:Bool)(r:Rp α)(hg:TypeId)(h:RG E ops Q rest (jJ mm r hg none 0 []::O) G):RG E ops Q rest O G:=fun a w S st=>h a w S (st.fresh mm r hg)
def Lg(mm:Bool)(r:Rp α)(hg:TypeId)(h:CG E Q c (jJ mm r hg none 0 []::O) G):CG E Q c O G:=fun a w S st=>h a w S (st.fresh mm r hg)
def qe{f:OE}(h:RG E ops Q rest O G):RG E ops Q rest (f::O) G:=fun a w S st=>h a w S st.drop
def CG.drop{f:OE}(h:CG E Q c O G):CG E Q c (f::O) G:=fun a w S st=>h a w S st.drop
def aM{f:OE}(h:AT E Q e O G):AT E Q e (f::O) G:=fun a w S st=>h a w S st.drop
def aS{x y:OE}(h:RG E ops Q rest (y::x::O) G):RG E ops Q rest (x::y::O) G:=fun a w S st=>h a w S (st.own_map cZ.swap)
def bp{x y:OE}(h:AT E Q e (y::x::O) G):AT E Q e (x::y::O) G:=fun a w S st=>h a w S (st.own_map cZ.swap)
def dl{x y z:OE}(h:RG E ops Q rest (z::x::y::O) G):RG E ops Q rest (x::y::z::O) G:=fun a w S st=>h a w S (st.own_map qW)
def aH{x y z:OE}(h:AT E Q e (z::x::y::O) G):AT E Q e (x::y::z::O) G:=fun a w S st=>h a w S (st.own_map qW)
def d7{x y z:OE}(h:RG E ops Q rest (u::x::y::z::O) G):RG E ops Q rest (x::y::z::u::O) G:=fun a w S st=>h a w S (st.own_map qV)
def cr{x y z:OE}(h:AT E Q e (u::x::y::z::O) G):AT E Q e (x::y::z::u::O) G:=fun a w S st=>h a w S (st.own_map qV)
def mz{x y z v:OE}(h:RG E ops Q rest (v::x::y::z::u::O) G):RG E ops Q rest (x::y::z::u::v::O) G:=fun a w S st=>h a w S (st.own_map qU)
def cz{x y z v:OE}(h:AT E Q e (v::x::y::z::u::O) G):AT E Q e (x::y::z::u::v::O) G:=fun a w S st=>h a w S (st.own_map qU)
def oz{f:OE}(h:LG E Q c O G):LG E Q c (f::O) G:=fun a w S st=>h a w S st.drop
def cX{x y:OE}(h:LG E Q c (y::x::O) G):LG E Q c (x::y::O) G:=fun a w S st=>h a w S (st.own_map cZ.swap)
def eT{x y z:OE}(h:LG E Q c (z::x::y::O) G):LG E Q c (x::y::z::O) G:=fun a w S st=>h a w S (st.own_map qW)
def kg{x y z:OE}(h:LG E Q c (u::x::y::z::O) G):LG E Q c (x::y::z::u::O) G:=fun a w S st=>h a w S (st.own_map qV)
def o5{x y z v:OE}(h:LG E Q c (v::x::y::z::u::O) G):LG E Q c (x::y::z::u::v::O) G:=fun a w S st=>h a w S (st.own_map qU)
def hD{r:Rp α}(h:RG E ops Q rest (gT r hg l cap xs::O) G):RG E ops Q rest (fi r hg l cap xs::O) G:=fun a w _ st=>let⟨S',st'⟩:=st.freeze;h a w S' st'
def mW{r:Rp α}{n:Nat}(k:Nat)(hk:bJ G k=some (tV (aK l cap n)))(h:RG E ops Q rest (gT r hg l cap xs::O) ((k,tO r l cap xs)::G))(hn:n=xs.length:=by rfl):RG E ops Q rest (gT r hg l cap xs::O) G:=fun a w S st=>h a w S (st.tipAt hk hn)
def Le{r:Rp α}{n:Nat}(k:Nat)(hk:bJ G k=some (tV (aK l cap n)))(h:CG E Q c (gT r hg l cap xs::O) ((k,tO r l cap xs)::G))(hn:n=xs.length:=by rfl):CG E Q c (gT r hg l cap xs::O) G:=fun a w S st=>h a w S (st.tipAt hk hn)
def o6{r:Rp α}(h:AT E Q e (gT r hg l cap xs::O) G):AT E Q e (fi r hg l cap xs::O) G:=fun a w _ st=>let⟨S',st'⟩:=st.freeze;h a w S' st'
def fC{r:Rp α}{n:Nat}(k:Nat)(hk:bJ G k=some (tV (aK l cap n)))(h:AT E Q e (gT r hg l cap xs::O) ((k,tO r l cap xs)::G))(hn:n=xs.length:=by rfl):AT E Q e (gT r hg l cap xs::O) G:=fun a w S st=>h a w S (st.tipAt hk hn)
def IS{r:Rp α}(h:LG E Q c (gT r hg l cap xs::O) G):LG E Q c (fi r hg l cap xs::O) G:=fun a w _ st=>let⟨S',st'⟩:=st.freeze;h a w S' st'
def Lb{r:Rp α}{n:Nat}(k:Nat)(hk:bJ G k=some (tV (aK l cap n)))(h:LG E Q c (gT r hg l cap xs::O) ((k,tO r l cap xs)::G))(hn:n=xs.length:=by rfl):LG E Q c (gT r hg l cap xs::O) G:=fun a w S st=>h a w S (st.tipAt hk hn)
def bE{r:Rp α}(hk:bJ G k=some (H (gy r) xs))(h:xs.length<=maxLen->CG E Q c O G):CG E Q c O G:=fun a w S st=>by
 obtain⟨_,_,_,Y,J,_⟩:=lC.1 (st.facts.at_ k _ hk)
 exact h (xo Y J) a w S st

section
variable{ty:TypeId}
def St.append{r:Rp α}{t ty:TypeId}{sz:Nat}{agg:Bool}(ti:TI E.P hg sz bytes agg z)(hsz:r.sz=sz)(hz:Nat.beq z.length sz=true)(h0:Nat.blt 0 sz=true)(h128:Nat.ble bytes 2048=true)(D:E.P.underlying t=some (.slice hg))(st:St E (jJ mm r hg l cap xs::O) G a w S)(hsrc:Src E.P r.sz t' v ys.length news w)(hrc:qK r S news ys)(happ:jp xs ys=some zs):
  ∃l' cap' w' S',(Builtin.append_ #[t,t'] ty #[aK l cap xs.length,v]).run E.P w= .ok (aK l' cap' zs.length) w' /\St E (jJ mm r hg l' cap' zs::O) G a w' S' :=by
 obtain⟨l',cap',w',S',hr,hext,hsat,hh,hnew⟩:=ug (ty:=ty) ti hsz hz h0 h128 D st.sat st.own.1 st.base_le hsrc hrc happ
 refine⟨l',cap',w',S',hr,st.ext.step hext fun b V=>st.own.1.2 b V,hsat,⟨hh,fun f X b V hfb=>?_,st.own.2.2.ext hext fun f X b V hbl=>st.own.2.1 f X b hbl V⟩,st.facts.mono hext.keep⟩
 rcases hnew b V with h|h
 ·exact st.own.2.1 f X b h hfb
 ·have:=f.here (cZ.mem st.own.2.2 f X).1 b hfb
  omega
def St.put{d:Nat}(h:St E O G a w S)(hd:Nat.blt d E.N.n=true)(hv:t.p S v):St E O ((d,t)::G) (a.put (some d) v) w S:=⟨h.ext,h.sat,h.own,h.facts.put hd hv⟩
def wl{r:Rp α}{t:TypeId}{sz:Nat}{agg:Bool}{n:Nat}{u:Nat->Option Nat->Ty}(ti:TI E.P hg sz bytes agg z)(hsz:r.sz=sz)(hz:Nat.beq z.length sz=true)(h0:Nat.blt 0 sz=true)(h128:Nat.ble bytes 2048=true)(D:E.P.underlying t=some (.slice hg))(hd:Nat.blt d E.N.n=true)(I:aE E.N G x (tV (aK l cap n)))(hy: ∀a w S,St E (jJ mm r hg l cap xs::O) G a w S-> ∃news,Src E.P r.sz t' (a.eval y) ys.length news w/\qK r S news ys)(happ:jp xs ys=some zs)(hu: ∀l' cap' w0 S,(jJ mm r hg l' cap' zs).p w0 S->(u cap' l').p S (aK l' cap' zs.length))(k: ∀l' cap',RG E ops Q rest (jJ mm r hg l' cap' zs::O) ((d,u cap' l')::G))(hn:n=xs.length):
  RG E ops Q (⟨some d,.call ⟨.builtin .append,#[x,y],#[t,t']⟩,ty,pos,after,none⟩::rest) (jJ mm r hg l cap xs::O) G:= .of rfl fun a w S st=>by
 subst hn
 have Y:a.eval x=aK l cap xs.length:=I S a st.facts
 obtain⟨news,J,Z⟩:=hy a w S st
 obtain⟨l',cap',w',S',hr,st'⟩:=st.append (ty:=ty) ti hsz hz h0 h128 D J Z happ
 have hrun:(execOp a.eval ⟨some d,.call ⟨.builtin .append,#[x,y],#[t,t']⟩,ty,pos,after,none⟩).run E.P w= .ok (.value (aK l' cap' zs.length)) w' :=by
  simp [execOp,resolve,invoke,builtin,Y,hr]
 refine⟨fun c h=>(by cases h),?_⟩
 rw [hrun]
 exact k l' cap' _ _ S' (st'.put hd (hu l' cap' w' S' st'.own.1.1))
def dm{r:Rp α}{t:TypeId}{sz:Nat}{agg:Bool}{n:Nat}(ti:TI E.P hg sz bytes agg z)(hsz:r.sz=sz)(hz:Nat.beq z.length sz=true)(h0:Nat.blt 0 sz=true)(h128:Nat.ble bytes 2048=true)(D:E.P.underlying t=some (.slice hg))(ht' :t' =t)(hd:Nat.blt d E.N.n=true)(I:aE E.N G x (tV (aK l cap n)))(hy:aE E.N G y (H (gy r) ys))(happ:jp xs ys=some zs)(k: ∀l' cap',RG E ops Q rest (fi r hg l' cap' zs::O) ((d,tV (aK l' cap' zs.length))::G))(hn:n=xs.length:=by rfl):
  RG E ops Q (⟨some d,.call ⟨.builtin .append,#[x,y],#[t,t']⟩,ty,pos,after,none⟩::rest) (fi r hg l cap xs::O) G:=by
 subst ht'
 exact wl (u:=fun cap' l' =>tV (aK l' cap' zs.length)) ti hsz hz h0 h128 D hd I (fun a w S st=>t7 D st.sat (hy S a st.facts)) happ (fun _ _ _ _ _=>rfl) k hn
def jg{r:Rp α}{t:TypeId}{sz:Nat}{agg:Bool}(ti:TI E.P hg sz bytes agg z)(hsz:r.sz=sz)(hz:Nat.beq z.length sz=true)(h0:Nat.blt 0 sz=true)(h128:Nat.ble bytes 2048=true)(D:E.P.underlying t=some (.slice hg))(ht' :t' =t)(hd:Nat.blt d E.N.n=true)(I:aE E.N G x (tO r l cap xs))(hy:aE E.N G y (H (gy r) ys))(happ:jp xs ys=some zs)(k: ∀l' cap',RG E ops Q rest (gT r hg l' cap' zs::O) ((d,tO r l' cap' zs)::G)):
  RG E ops Q (⟨some d,.call ⟨.builtin .append,#[x,y],#[t,t']⟩,ty,pos,after,none⟩::rest) (gT r hg l cap xs::O) G:=by
 subst ht'
 exact wl (u:=fun cap' l' =>tO r l' cap' zs) ti hsz hz h0 h128 D hd (wy I) (fun a w S st=>t7 D st.sat (hy S a st.facts)) happ (fun _ _ _ _ h=>⟨rfl,pw h⟩) k rfl
end
end

def wZ(off:Nat): ∀(cs:List Value) (k:Nat) (pre mid post:List Value),mid.length=cs.length->pre.length=off+k->
  (cs.zipIdx k).foldl (fun(a:Array Value) x=>a.setIfInBounds (off+x.2) x.1) (pre++mid++post).toArray=(pre++cs++post).toArray
 |[],k,pre,mid,post,hm,_=>by
  have:mid=[]:=tX hm
  subst this;simp
 |c::cs,k,pre,mid,post,hm,hp=>by
  cases mid with
  |nil=>simp at hm
  |cons m mid=>
   simp only [List.zipIdx_cons,List.foldl_cons]
   have Y:(pre++(m::mid)++post).toArray.setIfInBounds (off+k) c=((pre++[c])++mid++post).toArray:=by
    rw [<-hp]
    simp
   rw [Y,wZ off cs (k+1) (pre++[c]) mid post (by simpa using hm) (by simp;omega)]
   simp
def wz(v:Value)(off:Nat)(pre mid post:List Value)(hm:mid.length=v.cells.size)(hp:pre.length=off):
  v.cells.zipIdx.foldl (fun cs (x:Value×Nat)=>cs.setIfInBounds (off+x.2) x.1) (pre++mid++post).toArray=(pre++v.cells.toList++post).toArray:=by
 have:=wZ off v.cells.toList 0 pre mid post (by simpa using hm) (by simpa using hp)
 rw [<-this,<-Array.foldl_toList]
 simp [Array.toList_zipIdx]
def sj{r:Rp α}{x:α}(h:r.rc S cs x):(r.val cs).cells=cs.toArray:=by
 unfold Rp.val
 cases ha:r.agg with
 |true=>simp [Value.cells]
 |false=>
  have hl:=r.len h
  rw [r.sc ha]at hl
  match cs,hl with
  |[c],_=>
   have:=r.one h c (by simp)
   cases c<;>simp_all [Value.cells,Value.oneCell']
def yQ:Nat->List Value->List (Nat×Value)
 |_,[]=>[]
 |k,v::vs=>(k,v)::yQ (k+1) vs
def AC{α:Type}{r:Rp α}{S:SH}: ∀(ys:List α) (vs:List Value) (k:Nat) (pre zs:List Value),tM S (ys.map (H r)) vs->pre.length=k*r.sz->zs.length=ys.length*r.sz->
  ∃cs,qK r S cs ys/\Instr.fill (fun i=>some (i*r.sz,r.sz)) (pre++zs).toArray (yQ k vs)=some (pre++cs).toArray
 |[],[],k,pre,zs,_,_,hz=>by
  have:zs=[]:=tX (by simpa using hz)
  subst this
  exact⟨[],rfl,by simp [yQ,Instr.fill]⟩
 |y::ys,v::vs,k,pre,zs,⟨⟨c,e,hc⟩,J⟩,hp,hz=>by
  have hl:=r.len hc
  have hz' :r.sz<=zs.length:=by rw [hz,i6,tN];omega
  have e1:zs=zs.take r.sz++zs.drop r.sz:=(r0 _ _).symm
  have hcells:v.cells=c.toArray:=by rw [e];exact sj hc
  obtain⟨cs,Z,h4⟩:=AC ys vs (k+1) (pre++c) (zs.drop r.sz) J (by rw [jE,hp,hl,tN];omega) (by rw [Bc,hz,i6,tN];omega)
  refine⟨c++cs,⟨c,cs,rfl,hc,Z⟩,?_⟩
  have hs:v.cells.size=r.sz:=by rw [hcells];simpa using hl
  have hcond: ¬((v.cells.size≠r.sz)\/(k*r.sz+v.cells.size>(pre++zs).toArray.size)):=by
   simp [hs];omega
  have h5:=wz v (k*r.sz) pre (zs.take r.sz) (zs.drop r.sz) (by simp [hs];omega) hp
  rw [jr,<-e1]at h5
  simp only [yQ,Instr.fill]
  rw [bo (by simpa using hcond)]
  rw [h5,hcells]
  simpa using h4
def vn:Nat->List Operand->List (Nat×Operand)
 |_,[]=>[]
 |k,v::vs=>(k,v)::vn (k+1) vs
def xZ(ρ:Operand->Value): ∀(k:Nat) (xs:List Operand),(vn k xs).map (fun x=>(x.1,ρ x.2))=yQ k (xs.map ρ)
 |_,[]=>rfl
 |k,x::xs=>by simp [vn,yQ,xZ ρ (k+1) xs]

variable{parts:List (Nat×Operand)}
section
variable{E:En}{ty:TypeId}
def uf{P:Program}{r:Rp α}{xs:List Operand}{ρ:Operand->Value}{t:TypeId}{n sz:Nat}{agg:Bool}(D:P.underlying t=some (.slice hg))(ti:TI P hg sz bytes agg z)(hsz:r.sz=sz)(hn:n=ys.length)(V:Nat.ble (n*sz) 16777216=true)(I:tM S (ys.map (H r)) (xs.map ρ))(w:World):
  ∃cs,qK r S cs ys/\(Instr.buildSlice t n ((vn 0 xs).toArray.map fun x=>(x.1,ρ x.2))).run P w= .ok (.slice (some ⟨w.heap.size,0,none⟩) n n) (w.alloc (.cells cs.toArray hg (0,0))):=by
 subst hsz
 have hb' :=po V
 obtain⟨zv,hzr,_⟩:=ti.zero w
 obtain⟨cs,hc,hfill⟩:=AC ys (xs.map ρ) 0 [] ((Array.range (n*r.sz)).map (fun i=>(if n*r.sz=0 then #[]else zv.cells)[i%(if n*r.sz=0 then #[]else zv.cells).size]!)).toList I (by simp) (by simp [hn])
 refine⟨cs,hc,?_⟩
 have hparts:((vn 0 xs).toArray.map fun x=>(x.1,ρ x.2)).toList=yQ 0 (xs.map ρ):=by simp [xZ]
 simp only [iW,Array.toArray_toList]at hfill
 have hle: ¬(n*r.sz>2^24):=by omega
 by_cases hn0:n*r.sz=0
 ·simp only [hn0,fP]at hfill
  simp only [Instr.buildSlice,sP,jD D,tS,ti.sizeOf,Sem.run_ite,hn0,fP,Sem.run_pure,hparts,hfill]
  simp [newRow]
 ·simp only [hn0,iB]at hfill
  simp only [Instr.buildSlice,sP,jD D,tS,ti.sizeOf,Sem.run_ite,hle,iB,hn0,Sem.run_pure,hzr,hparts,hfill]
  simp [newRow]
def aR{r:Rp α}{xs:List Operand}{t:TypeId}{n sz:Nat}{agg:Bool}(D:E.P.underlying t=some (.slice hg))(ti:TI E.P hg sz bytes agg z)(hsz:r.sz=sz)(h0:Nat.blt 0 sz=true)(hp:parts=vn 0 xs)(hn:n=ys.length)(V:Nat.ble (n*sz) 16777216=true)(I:hG E.N G xs (ys.map (H r))):bR E O G ⟨dst,.buildSlice t n parts.toArray,ty,pos,after,g⟩ (H (gy r) ys):=
 .of_run fun a w S hs _ X=>by
  obtain⟨cs,hc,hr⟩:=uf D ti hsz hn V (I.tys X) w
  subst hsz
  have hb' :=po V
  have h0' :0<r.sz:=by simpa [tA] using h0
  have hnle:n<=n*r.sz:=Nat.le_mul_of_pos_right n h0'
  obtain⟨he,hs'⟩:=rA (w:=w) (.cells cs.toArray hg (0,0)) hs
  have hcl:=mi hc
  refine⟨.slice (some ⟨w.heap.size,0,none⟩) n n,_,_,?_,he,hs',lC.2 ⟨_,n,by rw [hn],by omega,by simp only [maxLen];omega,.inr ⟨w.heap.size,0,cs.toArray,hg,(0,0),rfl,by simp [SH.set],?_⟩⟩⟩
  ·subst hp
   simp only [execOp,sP,hr,tS,Sem.run_pure]
  ·have:qK r (S.set w.heap.size (.cells cs.toArray hg (0,0))) cs ys:=qJ he.keep hc
   simpa [<-hcl] using this
def JN{r:Rp α}{v:α}(I:aE E.N G x (H r v)):bR E O G ⟨dst,.box hg x,ty,pos,after,g⟩ (bw r v):=
 .of_run fun a w S hs _ X=>by
  obtain⟨cs,hv,hc⟩:=I S a X
  obtain⟨he,hs'⟩:=rA (w:=w) (.cells cs.toArray hg (0,0)) hs
  refine⟨.pointer (some ⟨w.heap.size,0,none⟩),_,_,?_,he,hs',w.heap.size,0,cs.toArray,hg,(0,0),rfl,by simp [SH.set],?_⟩
  ·simp [execOp,Instr.box,newVar,newRow,hv,sj hc]
  ·have:=r.mono he.keep hc
   have hl:=r.len hc
   simpa [<-hl] using this
end

def ln(c:Bool)(t:Ty):Ty where
 p:=fun S v=>if c=true then t.p S v else v=undef
 mono:=fun h k=>by
  split
  ·rename_i hc;rw [bD hc]at k;exact t.mono h k
  ·rename_i hc;rw [bo hc]at k;exact k
variable{gs:Nat}{pol:Bool}
section
variable{E:En}
def dp{N:Fr}{c:Bool}(h:bJ G k=some (ln c t))(hc:c=true):aE N G (.tmp k) t:=fun _ _ hF=>by
 have J:if c=true then t.p _ (Act.eval _ (.tmp k))else _=undef:=hF.at_ k _ h
 rw [bD hc]at J;exact J
def rl(c b:Bool):Ty:=ln c (H rB b)
def rk(h:bJ G k=some (H rB b)):aE E.N G (.tmp k) (rl true b):=fun _ _ hF=>by
 have J:(H rB b).p _ (Act.eval _ (.tmp k)):=hF.at_ k _ h
 simp only [rl,ln,fP]
 exact J
def B6{c:Bool}(h:bJ G k=some (ln c (H rB b))):aE E.N G (.tmp k) (rl c b):=fun _ _ hF=>hF.at_ k _ h
def zA{c:Bool}(T:o.guard=some (j,pol))(hj:(ops[j]?).bind (·.dst)=some gs)(hn:gs<a.tmps.size)(hv:(rl c b).p S (a.tmps.getD gs undef)):
  Region.wanted o (yielded ops a.tmps)=(c&&(b==pol)):=by
 have hget:a.tmps[gs]? =some (a.tmps.getD gs undef):=by
  rw [Dv,Array.getElem?_eq_getElem hn];rfl
 unfold Region.wanted
 rw [T]
 simp only [yielded,hj,bt,hget]
 cases c with
 |true=>
  have:a.tmps.getD gs undef= .bool b:=i8.1 (by simpa [rl,ln] using hv)
  rw [this]
  cases b<;>cases pol<;>rfl
 |false=>
  have:a.tmps.getD gs undef=undef:=by simpa [rl,ln] using hv
  rw [this]
  cases pol<;>rfl
def Dl{c:Bool}{op:Op}{ty:TypeId}(hj:(ops[j]?).bind (·.dst)=some gs)(hgs:Nat.blt gs E.N.n=true)(T:aE E.N G (.tmp gs) (rl c b))(hd:Nat.blt d E.N.n=true)(h:(c&&(b==pol))=true->bR E O G ⟨some d,op,ty,pos,after,some (j,pol)⟩ t)(k:RG E ops Q rest O ((d,ln (c&&(b==pol)) t)::G)):
  RG E ops Q (⟨some d,op,ty,pos,after,some (j,pol)⟩::rest) O G:=fun a w S st=>by
 have hgs' :gs<a.tmps.size:=by rw [st.facts.size];simpa [tA] using hgs
 have hw:=zA (o:=⟨some d,op,ty,pos,after,some (j,pol)⟩) rfl hj hgs' (T S a st.facts)
 refine wpListIn_step fun af hK=>?_
 rw [hw]
 by_cases hc:(c&&(b==pol))=true
 ·rw [bD hc]
  refine js (fun a' w' ⟨v,S',ha,he,hs,hv⟩=>?_) (h hc a w S st.sat st.own st.facts)
  subst ha
  refine hK _ _ (k _ _ _ (st.step he hs hd ?_))
  simpa only [ln,hc,fP] using hv
 ·rw [bo hc]
  refine⟨fun _ _=>trivial,hK _ _ (k _ _ S (st.step (gH.refl _ _ _) st.sat hd ?_))⟩
  show if _ then _ else _
  rw [bo hc]
end

structure Nd where
 slot:Nat
 ty:Ty
 src:Option Nat
def bO(E:En)(O:List OE)(ops:Array Oper)(need:jM)(o:Oper)(t:Ty):Prop:=
 ∀a w S,jo w S->cZ E.base E.B w S O->cP E.N S a need->
  if Region.wanted o (yielded ops a.tmps)then Ea E.P o a w (fun a' w' => ∃v S',a' =a.put o.dst v/\gH oT w S w' S' /\jo w' S' /\t.p S' v)else t.p S undef
def gO:List Nd->jM
 |[]=>[]
 |n::l=>(n.slot,n.ty)::gO l
def yu(o:Oper)(j:Nat):Bool:=o.after.toList.any fun e=>Nat.beq e.on j&&Region.binds .any e
def lM(l:List Oper)(o:Oper)(i:Nat)(n:Nd):Bool:=
 match n.src with
 |some j=>(match l[j]? with|some p=>(match p.dst with|some d=>Nat.beq d n.slot|none=>false)|none=>false)&&yu o j
 |none=>l.all fun p=>(match p.dst with|some d=> !(Nat.beq d n.slot)|none=>true)||yu p i
def tL(G:jM)(ts:List Ty)(n:Nd):Prop:=
 match n.src with
 |some j=>ts[j]? =some n.ty
 |none=>bJ G n.slot=some n.ty
def oG(G:jM)(ts:List Ty):List Nd->Prop
 |[]=>True
 |n::l=>tL G ts n/\oG G ts l
def oG.mem: ∀{l:List Nd},oG G ts l-> ∀n∈l,tL G ts n
 |_::_,⟨h,_⟩,_,.head _=>h
 |_::_,⟨_,h⟩,_,.tail _ hm=>oG.mem h _ hm
def MY(o:Oper):Nat:=o.dst.getD 0
def dx(i:Nat)(o:Oper):Bool:=o.after.toList.all fun e=> !(Region.binds .any e)||Nat.blt e.on i
def DR(E:En)(O:List OE)(G:jM)(l:List Oper)(ts:List Ty):Nat->List Oper->Prop
 |_,[]=>True
 |i,o::rest=>(∃(needs:List Nd) (t:Ty),ts[i]? =some t/\oG G ts needs/\(needs.all (lM l o i))=true/\dx i o=true/\bO E O l.toArray (gO needs) o t)/\DR E O G l ts (i+1) rest
def sU(N:Nat):List Nat->List Oper->Bool
 |_,[]=>true
 |seen,o::rest=>(match o.dst with|some d=>Nat.blt d N&& !(seen.any (Nat.beq d))&&sU N (d::seen) rest|none=>false)
def SN(E:En)(O:List OE)(G:jM)(l:List Oper)(ts:List Ty)(i:Nat)(o:Oper):Prop:=
 ∃(needs:List Nd) (t:Ty),ts[i]? =some t/\oG G ts needs/\(needs.all (lM l o i))=true/\dx i o=true/\bO E O l.toArray (gO needs) o t
def DR.get{E:En}{l:List Oper}(r:List Oper): ∀(k:Nat),DR E O G l ts k r-> ∀(j:Nat) (o:Oper),r[j]? =some o->SN E O G l ts (k+j) o:=by
 induction r with
 |nil=>intro k _ j o h;simp at h
 |cons p r ih=>
  intro k h j o ho
  cases j with
  |zero=>simp at ho;subst ho;exact h.1
  |succ j=>
   have:=ih (k+1) h.2 j o (by simpa using ho)
   rwa [show k+1+j=k+(j+1)from by omega]at this
def t8{N:Nat}(l:List Oper): ∀(seen:List Nat),sU N seen l=true->
  (∀o:Oper,o∈l-> ∃d,o.dst=some d/\d<N/\d∉seen)/\ ∀(i j:Nat) (o p:Oper),l[i]? =some o->l[j]? =some p->o.dst=p.dst->i=j:=by
 induction l with
 |nil=>exact fun _ _=>⟨fun _ h=>(by cases h),fun _ _ _ _ h=>(by simp at h)⟩
 |cons o l ih=>
  intro seen h
  unfold sU at h
  cases hd:o.dst with
  |none=>rw [hd]at h;cases h
  |some d=>
   rw [hd]at h
   simp only [iX,yo]at h
   obtain⟨⟨Y,J⟩,Z⟩:=h
   have h2' :d∉seen:=fun hm=>by
    rw [List.any_eq_false]at J
    exact J d hm (by simp)
   obtain⟨ih1,ih2⟩:=ih _ Z
   refine⟨fun q hq=>?_,fun i j q p hi hj hdp=>?_⟩
   ·rcases fT.1 hq with rfl|hq
    ·exact⟨d,hd,by simpa [tA] using Y,h2'⟩
    ·obtain⟨d',e1,e2,e3⟩:=ih1 q hq
     exact⟨d',e1,e2,fun hm=>e3 (mZ _ hm)⟩
   ·cases i with
    |zero=>
     cases j with
     |zero=>rfl
     |succ j=>
      simp at hi hj
      subst hi
      obtain⟨d',e1,_,e3⟩:=ih1 p (rZ hj)
      rw [hd,e1]at hdp
      have e4:d=d' :=by simpa using hdp
      exact absurd (by rw [e4];exact lK ..) e3
    |succ i=>
     cases j with
     |zero=>
      simp at hi hj
      subst hj
      obtain⟨d',e1,_,e3⟩:=ih1 q (rZ hi)
      rw [hd,e1]at hdp
      have e4:d' =d:=by simpa using hdp
      exact absurd (by rw [e4];exact lK ..) e3
     |succ j=>rw [ih2 i j q p (by simpa using hi) (by simpa using hj) hdp]

structure DJ(E:En)(O:List OE)(G:jM)(l:List Oper)(ts:List Ty)(done:Array Bool)(a:Act)(w:World)(S:SH):Prop where
 ext:gH E.B E.w0 E.S0 w S
 sat:jo w S
 own:cZ E.base E.B w S O
 size:a.tmps.size=E.N.n
 defers:a.defers=E.N.ds
 dsz:done.size=l.length
 down: ∀j o,l[j]? =some o->done.getD j false=true-> ∀e∈o.after,Region.binds .any e=true->done.getD e.on false=true
 old: ∀k t,bJ G k=some t->(∀j o,l[j]? =some o->done.getD j false=true->o.dst≠some k)->t.p S (a.tmps.getD k undef)
 new: ∀j o d t,l[j]? =some o->done.getD j false=true->o.dst=some d->ts[j]? =some t->t.p S (a.tmps.getD d undef)
variable{done:Array Bool}
def DJ.need{E:En}{l:List Oper}(h:DJ E O G l ts done a w S)(hi:l[i]? =some o)(hun:done.getD i true=false)(hwait: ∀e∈o.after,Region.binds .any e=true->done.getD e.on false=true){needs:List Nd}(Y:oG G ts needs)(J:(needs.all (lM l o i))=true):cP E.N S a (gO needs):=by
 have hlt:i<done.size:=by rw [h.dsz];exact(qf.1 hi).1
 have hun' :done.getD i false=false:=by
  simp [hlt]at hun ⊢;exact hun
 refine⟨h.size,h.defers,?_⟩
 have key: ∀n∈needs,n.ty.p S (a.tmps.getD n.slot undef):=by
  intro n hn
  have hs:=jK.1 J n hn
  have ho:=Y.mem n hn
  unfold lM at hs
  unfold tL at ho
  cases hsrc:n.src with
  |some j=>
   rw [hsrc]at hs ho
   simp only [iX]at hs
   obtain⟨hs1,hs2⟩:=hs
   cases hj:l[j]? with
   |none=>rw [hj]at hs1;cases hs1
   |some p=>
    rw [hj]at hs1
    cases hd:p.dst with
    |none=>simp only [hd]at hs1;cases hs1
    |some d=>
     simp only [hd]at hs1
     have hd' :=nD hs1
     subst hd'
     have hdone:done.getD j false=true:=by
      unfold yu at hs2
      obtain⟨e,he0,V⟩:=vv.1 hs2
      have he:e∈o.after:=by simpa using he0
      simp only [iX]at V
      have:=hwait e he V.2
      rwa [nD V.1]at this
     exact h.new j p n.slot n.ty hj hdone hd ho
  |none=>
   rw [hsrc]at hs ho
   refine h.old _ _ ho fun j p hj hdone hd=>?_
   have:=jK.1 hs p (rZ hj)
   simp only [hd,Nat.beq_refl,nC,tZ]at this
   unfold yu at this
   obtain⟨e,he0,V⟩:=vv.1 this
   have he:e∈p.after:=by simpa using he0
   simp only [iX]at V
   have Z:=h.down j p hj hdone e he V.2
   rw [nD V.1]at Z
   rw [Z]at hun'
   cases hun'
 clear Y J
 intro k t hk
 induction needs with
 |nil=>simp [gO,bJ]at hk
 |cons n needs ih=>
  unfold gO bJ at hk
  by_cases V:Nat.beq n.slot k=true
  ·rw [V]at hk
   have:=nD V
   subst this
   have e:n.ty=t:=by simpa using hk
   rw [<-e]
   exact key n (lK ..)
  ·rw [wp]at V
   rw [V]at hk
   exact ih (fun m hm=>key m (mZ _ hm)) hk
def F3:List Oper->List Ty->jM->jM
 |o::l,t::ts,G=>(MY o,t)::F3 l ts G
 |_,_,G=>G
def B0(l:List Oper): ∀(ts:List Ty) (k:Nat) (t:Ty),(∀o:Oper,o∈l->o.dst≠none)->ts.length=l.length->bJ (F3 l ts G) k=some t->
  (∃(j:Nat) (o:Oper),l[j]? =some o/\o.dst=some k/\ts[j]? =some t)\/(bJ G k=some t/\ ∀o:Oper,o∈l->o.dst≠some k):=by
 induction l with
 |nil=>
  intro ts k t _ hl h
  have:ts=[]:=tX (by simpa using hl)
  subst this
  exact .inr ⟨h,fun _ h=>(by cases h)⟩
 |cons o l ih=>
  intro ts k t hne hl h
  cases ts with
  |nil=>simp at hl
  |cons u ts=>
   unfold F3 bJ at h
   by_cases V:Nat.beq (MY o) k=true
   ·rw [V]at h
    have hk:=nD V
    refine .inl ⟨0,o,rfl,?_,by simpa using h⟩
    cases hd:o.dst with
    |none=>exact absurd hd (hne o (lK ..))
    |some d=>simp only [MY,hd,BE]at hk;rw [hk]
   ·rw [wp]at V
    rw [V]at h
    rcases ih ts k t (fun p hp=>hne p (mZ _ hp)) (by simpa using hl) h with⟨j,p,Y,J,Z⟩|⟨Y,J⟩
    ·exact .inl ⟨j+1,p,by simpa using Y,J,by simpa using Z⟩
    ·refine .inr ⟨Y,fun p hp hd=>?_⟩
     rcases fT.1 hp with rfl|hp
     ·simp [MY,hd]at V
     ·exact J p hp hd
def ph(hd:d<a.tmps.size):(a.put (some d) v).tmps.getD k undef=if d=k then v else a.tmps.getD k undef:=by
 by_cases h:d=k
 ·subst h;simp [Act.put,Dv,hd]
 ·simp [Act.put,Dv,h]
def DJ.step{E:En}{l:List Oper}(h:DJ E O G l ts done a w S)(hsl:sU E.N.n [] l=true)(hi:l[i]? =some o)(hwait: ∀e∈o.after,Region.binds .any e=true->done.getD e.on false=true)(D:ts[i]? =some t)(hun:done.getD i true=false)(hext:gH oT w S w' S')(hsat:jo w' S')(hv:t.p S' v):DJ E O G l ts (done.setIfInBounds i true) (a.put o.dst v) w' S' :=by
 obtain⟨hs1,hs2⟩:=t8 l [] hsl
 obtain⟨d,hd,hdN,_⟩:=hs1 o (rZ hi)
 have hda:d<a.tmps.size:=by rw [h.size];exact hdN
 have hlt:i<done.size:=by rw [h.dsz];exact(qf.1 hi).1
 have hset: ∀j,(done.setIfInBounds i true).getD j false=true->j=i\/done.getD j false=true:=fun j hj=>by
  by_cases hij:i=j
  ·exact .inl hij.symm
  ·rw [sf false hij]at hj;exact .inr hj
 have hseti:(done.setIfInBounds i true).getD i false=true:=by simp [hlt]
 have hun' :done.getD i false=false:=by simp [hlt]at hun ⊢;exact hun
 refine⟨h.ext.step0 hext,hsat,h.own.ext0 hext,?_,?_,by simp [h.dsz],fun j p hj hdone e he V=>?_,fun k u hk hno=>?_,fun j p d' u hj hdone hd' hu=>?_⟩
 ·rw [hd];simp [Act.put,h.size]
 ·rw [hd];exact h.defers
 ·rcases hset j hdone with rfl|hj'
  ·rw [hi]at hj
   have:o=p:=by simpa using hj
   subst this
   exact sQ (hwait e he V)
  ·exact sQ (h.down j p hj hj' e he V)
 ·have hne:d≠k:=fun e=>hno i o hi hseti (by rw [hd,e])
  rw [hd,ph hda,bo hne]
  exact u.mono hext.keep (h.old k u hk fun j p hj hdone=>hno j p hj (sQ hdone))
 ·rw [hd,ph hda]
  rcases hset j hdone with rfl|hj'
  ·rw [hi]at hj
   have:o=p:=by simpa using hj
   subst this
   rw [hd]at hd'
   have:d=d' :=by simpa using hd'
   subst this
   rw [bD rfl]
   rw [D]at hu
   have:t=u:=by simpa using hu
   subst this
   exact hv
  ·have hne:d≠d' :=fun e=>by
    subst e
    have:=hs2 i j o p hi hj (by rw [hd,hd'])
    subst this
    rw [hj']at hun';cases hun'
   rw [bo hne]
   exact u.mono hext.keep (h.new j p d' u hj hj' hd' hu)
def EY{l:List Oper}{done:Array Bool}(hsz:done.size=l.length)(hedge: ∀i o,l[i]? =some o->dx i o=true)(hr:Region.ready .any l.toArray done=[]): ∀n i,i<n->i<l.length->done.getD i false=true
 |0,i,h,_=>by omega
 |n+1,i,h,hi=>by
  have ih:=EY hsz hedge hr n
  by_cases hd:done.getD i true=true
  ·have:i<done.size:=by omega
   simp [this]at hd ⊢;exact hd
  ·exfalso
   have hmem:i∈Region.ready .any l.toArray done:=by
    rw [qr]
    refine⟨by simpa using hd,l[i],by simp [hi],fun e he V=>?_⟩
    have:=hedge i l[i] (by simp [hi])
    unfold dx at this
    have:=jK.1 this e (by simpa using he)
    simp only [V,nC,tZ,tA]at this
    exact ih e.on (by omega) (by omega)
   rw [hr]at hmem
   cases hmem
def jG(done:Array Bool):Nat:=done.toList.countP (· ==false)
def oK(h:done.getD i true=false):jG (done.setIfInBounds i true)+1=jG done:=by
 have hlt:i<done.size:=by
  rcases ll i done.size with h' |h'
  ·exact h'
  ·simp [Array.getElem?_eq_none h']at h
 have hv:done[i]=false:=by simpa [hlt] using h
 unfold jG
 rw [Array.toList_setIfInBounds,List.countP_set (by simpa using hlt)]
 have J:(done.toList[i]'(by simpa using hlt))=false:=by simpa using hv
 have hpos:0<done.toList.countP (· ==false):=List.countP_pos_iff.2 ⟨done.toList[i]'(by simpa using hlt),Bd _,by rw [J];rfl⟩
 rw [J,bD (show(false==false)=true from rfl),bo (show¬((true==false)=true) by decide)]
 omega
def Fy{E:En}{l:List Oper}(hsl:sU E.N.n [] l=true)(hd:DR E O G l ts 0 l)(hQ: ∀done a w S,DJ E O G l ts done a w S->(∀i,i<l.length->done.getD i false=true)->Q .normal a w):
  ∀(fuel:Nat) (done:Array Bool) (a:Act) (w:World) (S:SH),jG done=fuel->DJ E O G l ts done a w S->wpAnyIn (fw E.r) 0 E.P .any l.toArray Q fuel done a w:=by
 have hedge: ∀i o,l[i]? =some o->dx i o=true:=fun i o hi=>by
  obtain⟨_,_,_,_,_,h,_⟩:=DR.get l 0 hd i o hi
  simpa using h
 have fin: ∀done a w S,DJ E O G l ts done a w S->Region.ready .any l.toArray done=[]->Q .normal a w:=fun done a w S h hr=>
  hQ done a w S h fun i hi=>EY h.dsz hedge hr (i+1) i (by omega) hi
 intro fuel
 induction fuel with
 |zero=>
  intro done a w S hu h
  have hr:Region.ready .any l.toArray done=[]:=by
   cases hr:Region.ready .any l.toArray done with
   |nil=>rfl
   |cons i r=>
    have hm:i∈Region.ready .any l.toArray done:=by rw [hr];exact lK ..
    have:=oK (qr.1 hm).1
    omega
  exact⟨hr,fin done a w S h hr⟩
 |succ fuel ih=>
  intro done a w S hu h
  refine⟨fin done a w S h,fun i hi=>?_⟩
  obtain⟨hun,o,ho,hwait⟩:=qr.1 hi
  have ho' :l[i]? =some o:=by simpa using ho
  obtain⟨needs,t,Y,J,Z,_,h5⟩:=DR.get l 0 hd i o ho'
  rw [pL]at Y Z
  have hF:=h.need ho' hun hwait J Z
  have h6:=h5 a w S h.sat h.own hF
  have hu' :jG (done.setIfInBounds i true)=fuel:=by have:=oK hun;omega
  unfold wpOpIn
  rw [ho]
  show if _ then _ else _
  by_cases hw:Region.wanted o (yielded l.toArray a.tmps)=true
  ·rw [bD hw]at h6 ⊢
   refine js (fun a' w' ⟨v,S',ha,he,hs,hv⟩=>?_) h6
   subst ha
   exact ih _ _ _ S' hu' (h.step hsl ho' hwait Y hun he hs hv)
  ·rw [bo hw]at h6 ⊢
   exact⟨fun _ _=>trivial,ih _ _ _ S hu' (h.step hsl ho' hwait Y hun (gH.refl _ _ _) h.sat h6)⟩
section
variable{E:En}
def im{id:Nat}{l:List Oper}(hm:E.P.follows .mixedOrders=true)(hsl:sU E.N.n [] l=true)(hlen:ts.length=l.length)(hd:DR E O G l ts 0 l)(k:AT E Q .normal O (F3 l ts G)):
  CG E Q (.region id l.toArray true) O G:=fun a w S st=>by
 refine wpIn_region_any hm ?_
 obtain⟨he,hs⟩:=uF (w:=w) st.sat
 refine Fy hsl hd (fun done a w S h hall=>k a w S ⟨h.ext,h.sat,h.own,h.size,h.defers,fun j t hj=>?_⟩) _ _ _ _ S ?_
  ⟨st.ext.step0 he,hs,st.own.ext0 he,st.facts.size,st.facts.defers,by simp,fun j o hj hdone=>?_,fun k t hk _=>st.facts.at_ k t hk,fun j o d t hj hdone=>?_⟩
 ·obtain⟨hs1,_⟩:=t8 l [] hsl
  rcases B0 l ts j t (fun o ho e=>by obtain⟨d,hd,_⟩:=hs1 o ho;rw [hd]at e;cases e) hlen hj with⟨i,o,Y,J,Z⟩|⟨Y,J⟩
  ·exact h.new i o j t Y (hall i (qf.1 Y).1) J Z
  ·exact h.old j t Y fun i o ho _=>J o (rZ ho)
 ·unfold jG;rw [GX,GV];simp
 ·simp [vw]at hdone
  split at hdone<;>simp at hdone
 ·simp [vw]at hdone
  split at hdone<;>simp at hdone
def ac{need:jM}(T:o.guard=none)(h:bR E O need o t):bO E O ops need o t:=fun a w S hs ho X=>by
 have:Region.wanted o (yielded ops a.tmps)=true:=by unfold Region.wanted;rw [T]
 rw [this,bD rfl]
 exact h a w S hs ho X
def yV{l:List Oper}{need:jM}{c:Bool}(T:o.guard=some (j,pol))(hj:((l.toArray)[j]?).bind (·.dst)=some gs)(hgs:Nat.blt gs E.N.n=true)(V:aE E.N need (.tmp gs) (rl c b))(h:(c&&(b==pol))=true->bR E O need o t):bO E O l.toArray need o (ln (c&&(b==pol)) t):=fun a w S hs ho X=>by
 have hw:=zA (ops:=l.toArray) T hj (by rw [X.size];simpa [tA] using hgs) (V S a X)
 rw [hw]
 by_cases hc:(c&&(b==pol))=true
 ·rw [bD hc]
  refine mj (fun a' w' ⟨v,S',ha,he,hs,hv⟩=>⟨v,S',ha,he,hs,?_⟩) (h hc a w S hs ho X)
  show if _ then _ else _
  rw [bD hc];exact hv
 ·rw [bo hc]
  show if _ then _ else _
  rw [bo hc]
end
variable{α0 α1 α2 α3 α4 α5:Type}{Gf:α0->α1->α2->α3->α4->α5->jM}{Of:α0->α1->α2->α3->α4->α5->List OE}{α6:Type}
section
variable{E:En}
def I1{id:Nat}{h3:Prop}{Of:List OE}{Gf:jM}(hK:h3->AT E Q .normal (Of) (Gf))(h:(h3->AT E Q .normal (Of) (Gf))->CG E (Exit.inBlock id Q) c O G):CG E Q (.block id c) O G:=av (h hK)
def IX{x y:Code}{h3:Prop}{Of:List OE}{Gf:jM}(hK:h3->CG E Q y (Of) (Gf))
  (h:(h3->AT E (Exit.then (y.wpIn (fw E.r) 0 E.P Q) Q) .normal (Of) (Gf))->CG E (Exit.then (y.wpIn (fw E.r) 0 E.P Q) Q) x O G):CG E Q (.seq x y) O G:=aJ (h (fun hz=>hK hz))
def kX{h3:List β->α0->Prop}{Of:List β->α0->List OE}{Gf:List β->α0->jM}(h0: ∀x0,h3 [] x0->LG E Q c (Of [] x0) (Gf [] x0))(h: ∀b l,(∀x0,h3 l x0->LG E Q c (Of l x0) (Gf l x0))-> ∀x0,h3 (b::l) x0->LG E Q c (Of (b::l) x0) (Gf (b::l) x0)): ∀l,∀x0,h3 l x0->LG E Q c (Of l x0) (Gf l x0)
 |[]=>h0
 |b::l=>h b l (kX h0 h l)
def Co{id:Nat}{h3:α0->Prop}{Of:α0->List OE}{Gf:α0->jM}(hK: ∀x0,h3 x0->AT E Q .normal (Of x0) (Gf x0))(h:(∀x0,h3 x0->AT E Q .normal (Of x0) (Gf x0))->CG E (Exit.inBlock id Q) c O G):CG E Q (.block id c) O G:=av (h hK)
def iZ{x y:Code}{h3:α0->Prop}{Of:α0->List OE}{Gf:α0->jM}(hK: ∀x0,h3 x0->CG E Q y (Of x0) (Gf x0))(h:(∀x0,h3 x0->AT E (Exit.then (y.wpIn (fw E.r) 0 E.P Q) Q) .normal (Of x0) (Gf x0))->CG E (Exit.then (y.wpIn (fw E.r) 0 E.P Q) Q) x O G):CG E Q (.seq x y) O G:=aJ (h (fun x0=>fun hz=>hK x0 hz))
def HN{h3:Nat->α0->α1->Prop}{Of:α0->α1->List OE}{Gf:α0->α1->jM}(h0: ∀x0 x1,h3 0 x0 x1->False)(h: ∀n,(∀x0 x1,h3 n x0 x1->LG E Q c (Of x0 x1) (Gf x0 x1))-> ∀x0 x1,h3 (n+1) x0 x1->LG E Q c (Of x0 x1) (Gf x0 x1)): ∀n,∀x0 x1,h3 n x0 x1->LG E Q c (Of x0 x1) (Gf x0 x1)
 |0=>fun x0 x1 hz=>(h0 x0 x1 hz).elim
 |n+1=>h n (HN h0 h n)
def jh{h3:List β->α0->α1->Prop}{Of:List β->α0->α1->List OE}{Gf:List β->α0->α1->jM}(h0: ∀x0 x1,h3 [] x0 x1->LG E Q c (Of [] x0 x1) (Gf [] x0 x1))(h: ∀b l,(∀x0 x1,h3 l x0 x1->LG E Q c (Of l x0 x1) (Gf l x0 x1))-> ∀x0 x1,h3 (b::l) x0 x1->LG E Q c (Of (b::l) x0 x1) (Gf (b::l) x0 x1)): ∀l,∀x0 x1,h3 l x0 x1->LG E Q c (Of l x0 x1) (Gf l x0 x1)
 |[]=>h0
 |b::l=>h b l (jh h0 h l)
def I0{id:Nat}{h3:α0->α1->Prop}{Of:α0->α1->List OE}{Gf:α0->α1->jM}(hK: ∀x0 x1,h3 x0 x1->AT E Q .normal (Of x0 x1) (Gf x0 x1))(h:(∀x0 x1,h3 x0 x1->AT E Q .normal (Of x0 x1) (Gf x0 x1))->CG E (Exit.inBlock id Q) c O G):CG E Q (.block id c) O G:=av (h hK)
def IW{x y:Code}{h3:α0->α1->Prop}{Of:α0->α1->List OE}{Gf:α0->α1->jM}(hK: ∀x0 x1,h3 x0 x1->CG E Q y (Of x0 x1) (Gf x0 x1))(h:(∀x0 x1,h3 x0 x1->AT E (Exit.then (y.wpIn (fw E.r) 0 E.P Q) Q) .normal (Of x0 x1) (Gf x0 x1))->CG E (Exit.then (y.wpIn (fw E.r) 0 E.P Q) Q) x O G):CG E Q (.seq x y) O G:=aJ (h (fun x0 x1=>fun hz=>hK x0 x1 hz))
def uE{h3:List β->α0->α1->α2->Prop}{Of:List β->α0->α1->α2->List OE}{Gf:List β->α0->α1->α2->jM}(h0: ∀x0 x1 x2,h3 [] x0 x1 x2->LG E Q c (Of [] x0 x1 x2) (Gf [] x0 x1 x2))(h: ∀b l,(∀x0 x1 x2,h3 l x0 x1 x2->LG E Q c (Of l x0 x1 x2) (Gf l x0 x1 x2))-> ∀x0 x1 x2,h3 (b::l) x0 x1 x2->LG E Q c (Of (b::l) x0 x1 x2) (Gf (b::l) x0 x1 x2)): ∀l,∀x0 x1 x2,h3 l x0 x1 x2->LG E Q c (Of l x0 x1 x2) (Gf l x0 x1 x2)
 |[]=>h0
 |b::l=>h b l (uE h0 h l)
def HJ{h3:Nat->α0->α1->α2->Prop}{Of:Nat->α0->α1->α2->List OE}{Gf:Nat->α0->α1->α2->jM}(h0: ∀x0 x1 x2,h3 0 x0 x1 x2->LG E Q c (Of 0 x0 x1 x2) (Gf 0 x0 x1 x2))(h: ∀n,(∀x0 x1 x2,h3 n x0 x1 x2->LG E Q c (Of n x0 x1 x2) (Gf n x0 x1 x2))-> ∀x0 x1 x2,h3 (n+1) x0 x1 x2->LG E Q c (Of (n+1) x0 x1 x2) (Gf (n+1) x0 x1 x2)): ∀n,∀x0 x1 x2,h3 n x0 x1 x2->LG E Q c (Of n x0 x1 x2) (Gf n x0 x1 x2)
 |0=>h0
 |n+1=>h n (HJ h0 h n)
def IV{x y:Code}{h3:α0->α1->α2->Prop}{Of:α0->α1->α2->List OE}{Gf:α0->α1->α2->jM}(hK: ∀x0 x1 x2,h3 x0 x1 x2->CG E Q y (Of x0 x1 x2) (Gf x0 x1 x2))(h:(∀x0 x1 x2,h3 x0 x1 x2->AT E (Exit.then (y.wpIn (fw E.r) 0 E.P Q) Q) .normal (Of x0 x1 x2) (Gf x0 x1 x2))->CG E (Exit.then (y.wpIn (fw E.r) 0 E.P Q) Q) x O G):CG E Q (.seq x y) O G:=aJ (h (fun x0 x1 x2=>fun hz=>hK x0 x1 x2 hz))
def HM{h3:Nat->α0->α1->α2->α3->Prop}{Of:α0->α1->α2->α3->List OE}{Gf:α0->α1->α2->α3->jM}(h0: ∀x0 x1 x2 x3,h3 0 x0 x1 x2 x3->False)(h: ∀n,(∀x0 x1 x2 x3,h3 n x0 x1 x2 x3->LG E Q c (Of x0 x1 x2 x3) (Gf x0 x1 x2 x3))-> ∀x0 x1 x2 x3,h3 (n+1) x0 x1 x2 x3->LG E Q c (Of x0 x1 x2 x3) (Gf x0 x1 x2 x3)): ∀n,∀x0 x1 x2 x3,h3 n x0 x1 x2 x3->LG E Q c (Of x0 x1 x2 x3) (Gf x0 x1 x2 x3)
 |0=>fun x0 x1 x2 x3 hz=>(h0 x0 x1 x2 x3 hz).elim
 |n+1=>h n (HM h0 h n)
def pK{h3:List β->α0->α1->α2->α3->Prop}{Of:List β->α0->α1->α2->α3->List OE}{Gf:List β->α0->α1->α2->α3->jM}(h0: ∀x0 x1 x2 x3,h3 [] x0 x1 x2 x3->LG E Q c (Of [] x0 x1 x2 x3) (Gf [] x0 x1 x2 x3))(h: ∀b l,(∀x0 x1 x2 x3,h3 l x0 x1 x2 x3->LG E Q c (Of l x0 x1 x2 x3) (Gf l x0 x1 x2 x3))-> ∀x0 x1 x2 x3,h3 (b::l) x0 x1 x2 x3->LG E Q c (Of (b::l) x0 x1 x2 x3) (Gf (b::l) x0 x1 x2 x3)): ∀l,∀x0 x1 x2 x3,h3 l x0 x1 x2 x3->LG E Q c (Of l x0 x1 x2 x3) (Gf l x0 x1 x2 x3)
 |[]=>h0
 |b::l=>h b l (pK h0 h l)
def HI{h3:Nat->α0->α1->α2->α3->Prop}{Of:Nat->α0->α1->α2->α3->List OE}{Gf:Nat->α0->α1->α2->α3->jM}(h0: ∀x0 x1 x2 x3,h3 0 x0 x1 x2 x3->LG E Q c (Of 0 x0 x1 x2 x3) (Gf 0 x0 x1 x2 x3))(h: ∀n,(∀x0 x1 x2 x3,h3 n x0 x1 x2 x3->LG E Q c (Of n x0 x1 x2 x3) (Gf n x0 x1 x2 x3))-> ∀x0 x1 x2 x3,h3 (n+1) x0 x1 x2 x3->LG E Q c (Of (n+1) x0 x1 x2 x3) (Gf (n+1) x0 x1 x2 x3)): ∀n,∀x0 x1 x2 x3,h3 n x0 x1 x2 x3->LG E Q c (Of n x0 x1 x2 x3) (Gf n x0 x1 x2 x3)
 |0=>h0
 |n+1=>h n (HI h0 h n)
def Cn{id:Nat}{h3:α0->α1->α2->α3->Prop}{Of:α0->α1->α2->α3->List OE}{Gf:α0->α1->α2->α3->jM}(hK: ∀x0 x1 x2 x3,h3 x0 x1 x2 x3->AT E Q .normal (Of x0 x1 x2 x3) (Gf x0 x1 x2 x3))(h:(∀x0 x1 x2 x3,h3 x0 x1 x2 x3->AT E Q .normal (Of x0 x1 x2 x3) (Gf x0 x1 x2 x3))->CG E (Exit.inBlock id Q) c O G):CG E Q (.block id c) O G:=av (h hK)
def mX{h3:List β->α0->α1->α2->α3->α4->Prop}{Of:List β->α0->α1->α2->α3->α4->List OE}{Gf:List β->α0->α1->α2->α3->α4->jM}(h0: ∀x0 x1 x2 x3 x4,h3 [] x0 x1 x2 x3 x4->LG E Q c (Of [] x0 x1 x2 x3 x4) (Gf [] x0 x1 x2 x3 x4))(h: ∀b l,(∀x0 x1 x2 x3 x4,h3 l x0 x1 x2 x3 x4->LG E Q c (Of l x0 x1 x2 x3 x4) (Gf l x0 x1 x2 x3 x4))-> ∀x0 x1 x2 x3 x4,h3 (b::l) x0 x1 x2 x3 x4->LG E Q c (Of (b::l) x0 x1 x2 x3 x4) (Gf (b::l) x0 x1 x2 x3 x4)): ∀l,∀x0 x1 x2 x3 x4,h3 l x0 x1 x2 x3 x4->LG E Q c (Of l x0 x1 x2 x3 x4) (Gf l x0 x1 x2 x3 x4)
 |[]=>h0
 |b::l=>h b l (mX h0 h l)
def HK{h3:Nat->α0->α1->α2->α3->α4->α5->Prop}(h0: ∀x0 x1 x2 x3 x4 x5,h3 0 x0 x1 x2 x3 x4 x5->False)(h: ∀n,(∀x0 x1 x2 x3 x4 x5,h3 n x0 x1 x2 x3 x4 x5->LG E Q c (Of x0 x1 x2 x3 x4 x5) (Gf x0 x1 x2 x3 x4 x5))-> ∀x0 x1 x2 x3 x4 x5,h3 (n+1) x0 x1 x2 x3 x4 x5->LG E Q c (Of x0 x1 x2 x3 x4 x5) (Gf x0 x1 x2 x3 x4 x5)): ∀n,∀x0 x1 x2 x3 x4 x5,h3 n x0 x1 x2 x3 x4 x5->LG E Q c (Of x0 x1 x2 x3 x4 x5) (Gf x0 x1 x2 x3 x4 x5)
 |0=>fun x0 x1 x2 x3 x4 x5 hz=>(h0 x0 x1 x2 x3 x4 x5 hz).elim
 |n+1=>h n (HK h0 h n)
def Fg{h3:List β->α0->α1->α2->α3->α4->α5->Prop}{Of:List β->α0->α1->α2->α3->α4->α5->List OE}{Gf:List β->α0->α1->α2->α3->α4->α5->jM}(h0: ∀x0 x1 x2 x3 x4 x5,h3 [] x0 x1 x2 x3 x4 x5->LG E Q c (Of [] x0 x1 x2 x3 x4 x5) (Gf [] x0 x1 x2 x3 x4 x5))(h: ∀b l,(∀x0 x1 x2 x3 x4 x5,h3 l x0 x1 x2 x3 x4 x5->LG E Q c (Of l x0 x1 x2 x3 x4 x5) (Gf l x0 x1 x2 x3 x4 x5))-> ∀x0 x1 x2 x3 x4 x5,h3 (b::l) x0 x1 x2 x3 x4 x5->LG E Q c (Of (b::l) x0 x1 x2 x3 x4 x5) (Gf (b::l) x0 x1 x2 x3 x4 x5)): ∀l,∀x0 x1 x2 x3 x4 x5,h3 l x0 x1 x2 x3 x4 x5->LG E Q c (Of l x0 x1 x2 x3 x4 x5) (Gf l x0 x1 x2 x3 x4 x5)
 |[]=>h0
 |b::l=>h b l (Fg h0 h l)
def IZ{id:Nat}{h3:α0->α1->α2->α3->α4->α5->Prop}(hK: ∀x0 x1 x2 x3 x4 x5,h3 x0 x1 x2 x3 x4 x5->AT E Q .normal (Of x0 x1 x2 x3 x4 x5) (Gf x0 x1 x2 x3 x4 x5))(h:(∀x0 x1 x2 x3 x4 x5,h3 x0 x1 x2 x3 x4 x5->AT E Q .normal (Of x0 x1 x2 x3 x4 x5) (Gf x0 x1 x2 x3 x4 x5))->CG E (Exit.inBlock id Q) c O G):CG E Q (.block id c) O G:=av (h hK)
def IU{x y:Code}{h3:α0->α1->α2->α3->α4->α5->Prop}(hK: ∀x0 x1 x2 x3 x4 x5,h3 x0 x1 x2 x3 x4 x5->CG E Q y (Of x0 x1 x2 x3 x4 x5) (Gf x0 x1 x2 x3 x4 x5))(h:(∀x0 x1 x2 x3 x4 x5,h3 x0 x1 x2 x3 x4 x5->AT E (Exit.then (y.wpIn (fw E.r) 0 E.P Q) Q) .normal (Of x0 x1 x2 x3 x4 x5) (Gf x0 x1 x2 x3 x4 x5))->CG E (Exit.then (y.wpIn (fw E.r) 0 E.P Q) Q) x O G):CG E Q (.seq x y) O G:=aJ (h (fun x0 x1 x2 x3 x4 x5=>fun hz=>hK x0 x1 x2 x3 x4 x5 hz))
def Ff{h3:List β->α0->α1->α2->α3->α4->α5->α6->Prop}{Of:List β->α0->α1->α2->α3->α4->α5->α6->List OE}{Gf:List β->α0->α1->α2->α3->α4->α5->α6->jM}(h0: ∀x0 x1 x2 x3 x4 x5 x6,h3 [] x0 x1 x2 x3 x4 x5 x6->LG E Q c (Of [] x0 x1 x2 x3 x4 x5 x6) (Gf [] x0 x1 x2 x3 x4 x5 x6))(h: ∀b l,(∀x0 x1 x2 x3 x4 x5 x6,h3 l x0 x1 x2 x3 x4 x5 x6->LG E Q c (Of l x0 x1 x2 x3 x4 x5 x6) (Gf l x0 x1 x2 x3 x4 x5 x6))-> ∀x0 x1 x2 x3 x4 x5 x6,h3 (b::l) x0 x1 x2 x3 x4 x5 x6->LG E Q c (Of (b::l) x0 x1 x2 x3 x4 x5 x6) (Gf (b::l) x0 x1 x2 x3 x4 x5 x6)): ∀l,∀x0 x1 x2 x3 x4 x5 x6,h3 l x0 x1 x2 x3 x4 x5 x6->LG E Q c (Of l x0 x1 x2 x3 x4 x5 x6) (Gf l x0 x1 x2 x3 x4 x5 x6)
 |[]=>h0
 |b::l=>h b l (Ff h0 h l)
def IT{x y:Code}{h3:α0->α1->α2->α3->α4->α5->α6->Prop}{Of:α0->α1->α2->α3->α4->α5->α6->List OE}{Gf:α0->α1->α2->α3->α4->α5->α6->jM}(hK: ∀x0 x1 x2 x3 x4 x5 x6,h3 x0 x1 x2 x3 x4 x5 x6->CG E Q y (Of x0 x1 x2 x3 x4 x5 x6) (Gf x0 x1 x2 x3 x4 x5 x6))(h:(∀x0 x1 x2 x3 x4 x5 x6,h3 x0 x1 x2 x3 x4 x5 x6->AT E (Exit.then (y.wpIn (fw E.r) 0 E.P Q) Q) .normal (Of x0 x1 x2 x3 x4 x5 x6) (Gf x0 x1 x2 x3 x4 x5 x6))->CG E (Exit.then (y.wpIn (fw E.r) 0 E.P Q) Q) x O G):CG E Q (.seq x y) O G:=aJ (h (fun x0 x1 x2 x3 x4 x5 x6=>fun hz=>hK x0 x1 x2 x3 x4 x5 x6 hz))
def A1{α7:Type}{h3:List β->α0->α1->α2->α3->α4->α5->α6->α7->Prop}{Of:List β->α0->α1->α2->α3->α4->α5->α6->α7->List OE}{Gf:List β->α0->α1->α2->α3->α4->α5->α6->α7->jM}(h0: ∀x0 x1 x2 x3 x4 x5 x6 x7,h3 [] x0 x1 x2 x3 x4 x5 x6 x7->LG E Q c (Of [] x0 x1 x2 x3 x4 x5 x6 x7) (Gf [] x0 x1 x2 x3 x4 x5 x6 x7))(h: ∀b l,(∀x0 x1 x2 x3 x4 x5 x6 x7,h3 l x0 x1 x2 x3 x4 x5 x6 x7->LG E Q c (Of l x0 x1 x2 x3 x4 x5 x6 x7) (Gf l x0 x1 x2 x3 x4 x5 x6 x7))-> ∀x0 x1 x2 x3 x4 x5 x6 x7,h3 (b::l) x0 x1 x2 x3 x4 x5 x6 x7->LG E Q c (Of (b::l) x0 x1 x2 x3 x4 x5 x6 x7) (Gf (b::l) x0 x1 x2 x3 x4 x5 x6 x7)): ∀l,∀x0 x1 x2 x3 x4 x5 x6 x7,h3 l x0 x1 x2 x3 x4 x5 x6 x7->LG E Q c (Of l x0 x1 x2 x3 x4 x5 x6 x7) (Gf l x0 x1 x2 x3 x4 x5 x6 x7)
 |[]=>h0
 |b::l=>h b l (A1 h0 h l)
end
def bs{α:Type _}{β:Type _}{x:Option α}{k:α->Option β}{r:β}(h:x.bind k=some r): ∃y,x=some y/\k y=some r:=by
 cases x with
 |none=>cases h
 |some y=>exact⟨y,rfl,h⟩
def ct{β:Type _}{x y:Option β}{r:β}(h:(if b=true then x else y)=some r)(V:b=true):x=some r:=by rwa [bD V]at h
def cf{β:Type _}{x y:Option β}{r:β}(h:(if b=true then x else y)=some r)(V:b=false):y=some r:=by rwa [bo (by rw [V];decide)]at h
def so{β:Type _}{x r:β}(h:some x=some r):x=r:=by simpa using h
def og [Inhabited α]{x:Option α}{k:α->Option β}{d:Option β}{r:β}(h:(if b=true then x.bind k else d)=some r): ∃y,(b=true->x=some y/\k y=some r)/\(b=false->d=some r):=by
 cases b with
 |true=>obtain⟨y,Y,J⟩:=bs (ct h rfl);exact⟨y,fun _=>⟨Y,J⟩,fun e=>(by cases e)⟩
 |false=>exact⟨default,fun e=>(by cases e),fun _=>cf h rfl⟩

def cq{α β:Type}(p:Rp α)(q:Rp β):Rp (α×β) where
 sz:=p.sz+q.sz
 agg:=true
 rc:=fun S cs x=> ∃a b,cs=a++b/\p.rc S a x.1/\q.rc S b x.2
 mono:=fun h ⟨a,b,e,Y,J⟩=>⟨a,b,e,p.mono h Y,q.mono h J⟩
 len:=fun⟨a,b,e,Y,J⟩=>by rw [e,jE,p.len Y,q.len J]
 one:=fun⟨a,b,e,Y,J⟩ c hc=>by
  rw [e]at hc
  rcases pY.1 hc with h|h
  ·exact p.one Y c h
  ·exact q.one J c h
 sc:=fun h=>by cases h
def nI{α β:Type}(p:Rp α)(f:β->α):Rp β where
 sz:=p.sz
 agg:=true
 rc:=fun S cs x=>p.rc S cs (f x)
 mono:=fun h k=>p.mono h k
 len:=fun h=>p.len h
 one:=fun h=>p.one h
 sc:=fun h=>by cases h
def df{p:Rp α}{f:β->α}:mf (nI p f) 0 p f:=fun S cs x h=>by
 have h' :p.rc S cs (f x):=h
 have hl:=p.len h'
 rw [tQ,<-hl,zn];exact h'
variable{γ:Type}
def eV{p:Rp α}{r:Rp γ}{get:γ->α×β}(h:mf r off (cq p q) get):mf r off p (fun x=>(get x).1):=fun S cs x k=>by
 obtain⟨a,b,e,Y,J⟩:=h S cs x k
 have hl:=p.len Y
 have hl2:=q.len J
 have:(cs.drop off).take p.sz=a:=by
  have e2:=congrArg (List.take p.sz) e
  rw [vt,u3 (by show p.sz<=p.sz+q.sz;omega),<-hl,List.take_left]at e2
  rw [<-hl];exact e2
 rw [this];exact Y
def aF{p:Rp α}{r:Rp γ}{off' :Nat}{get:γ->α×β}(h:mf r off (cq p q) get)(ho:off' =off+p.sz):mf r off' q (fun x=>(get x).2):=fun S cs x k=>by
 obtain⟨a,b,e,Y,J⟩:=h S cs x k
 have hl:=p.len Y
 have hl2:=q.len J
 have:(cs.drop off').take q.sz=b:=by
  have e2:=congrArg (List.drop p.sz) e
  rw [zj,pX,<-hl,List.drop_left]at e2
  rw [ho,<-hl,<-e2]
  congr 1
  show q.sz=p.sz+q.sz-a.length
  omega
 rw [this];exact J

section
variable{E:En}
def Nq{op:Op}{ty:TypeId}(hj:(ops[j]?).bind (·.dst)=some gs)(hgs:Nat.blt gs E.N.n=true)(T:bJ G gs=some (H rB b))(hd:Nat.blt d E.N.n=true)(h:b=true->bR E O G ⟨some d,op,ty,pos,after,some (j,true)⟩ t)(k:RG E ops Q rest O ((d,ln b t)::G)):RG E ops Q (⟨some d,op,ty,pos,after,some (j,true)⟩::rest) O G:=by
 have e:(true&&(b==true))=b:=by cases b<;>rfl
 exact Dl hj hgs (rk T) hd (by rw [e];exact h) (by rw [e];exact k)
def Nr{op:Op}{ty:TypeId}(hj:(ops[j]?).bind (·.dst)=some gs)(hgs:Nat.blt gs E.N.n=true)(T:bJ G gs=some (H rB b))(hd:Nat.blt d E.N.n=true)(h:(!b)=true->bR E O G ⟨some d,op,ty,pos,after,some (j,false)⟩ t)(k:RG E ops Q rest O ((d,ln (!b) t)::G)):RG E ops Q (⟨some d,op,ty,pos,after,some (j,false)⟩::rest) O G:=by
 have e:(true&&(b==false))= !b:=by cases b<;>rfl
 exact Dl hj hgs (rk T) hd (by rw [e];exact h) (by rw [e];exact k)
def jB{c:Bool}{op:Op}{ty:TypeId}(hj:(ops[j]?).bind (·.dst)=some gs)(hgs:Nat.blt gs E.N.n=true)(T:bJ G gs=some (ln c (H rB b)))(hd:Nat.blt d E.N.n=true)(h:(c&&b)=true->bR E O G ⟨some d,op,ty,pos,after,some (j,true)⟩ t)(k:RG E ops Q rest O ((d,ln (c&&b) t)::G)):RG E ops Q (⟨some d,op,ty,pos,after,some (j,true)⟩::rest) O G:=by
 have e:(c&&(b==true))=(c&&b):=by cases b<;>rfl
 exact Dl hj hgs (B6 T) hd (by rw [e];exact h) (by rw [e];exact k)
def sH{c:Bool}{op:Op}{ty:TypeId}(hj:(ops[j]?).bind (·.dst)=some gs)(hgs:Nat.blt gs E.N.n=true)(T:bJ G gs=some (ln c (H rB b)))(hd:Nat.blt d E.N.n=true)(h:(c&& !b)=true->bR E O G ⟨some d,op,ty,pos,after,some (j,false)⟩ t)(k:RG E ops Q rest O ((d,ln (c&& !b) t)::G)):RG E ops Q (⟨some d,op,ty,pos,after,some (j,false)⟩::rest) O G:=by
 have e:(c&&(b==false))=(c&& !b):=by cases b<;>rfl
 exact Dl hj hgs (B6 T) hd (by rw [e];exact h) (by rw [e];exact k)
def cu{l:List Oper}{need:jM}(T:o.guard=some (j,true))(hj:((l.toArray)[j]?).bind (·.dst)=some gs)(hgs:Nat.blt gs E.N.n=true)(V:bJ need gs=some (H rB b))(h:b=true->bR E O need o t):bO E O l.toArray need o (ln b t):=by
 have e:(true&&(b==true))=b:=by cases b<;>rfl
 have:=yV (t:=t) T hj hgs (rk (E:=E) V) (by rw [e];exact h)
 rwa [e]at this
def md{l:List Oper}{need:jM}(T:o.guard=some (j,false))(hj:((l.toArray)[j]?).bind (·.dst)=some gs)(hgs:Nat.blt gs E.N.n=true)(V:bJ need gs=some (H rB b))(h:(!b)=true->bR E O need o t):bO E O l.toArray need o (ln (!b) t):=by
 have e:(true&&(b==false))= !b:=by cases b<;>rfl
 have:=yV (t:=t) T hj hgs (rk (E:=E) V) (by rw [e];exact h)
 rwa [e]at this
def Dh{a:Bool}(h:a=true)(k:b=true):(a&&b)=true:=by rw [h,k];rfl
def xO{a:Bool}(h:a=false):(!a)=true:=by rw [h];rfl
def xm{c:Operand}{x y:Code}(V:aE E.N G c (H rB b))(h:b=true)(I:CG E Q x O G):CG E Q (.cond c x y) O G:=pl V (fun _=>I) (fun e=>by rw [h]at e;cases e)
def xn{c:Operand}{x y:Code}(V:aE E.N G c (H rB b))(h:b=false)(hy:CG E Q y O G):CG E Q (.cond c x y) O G:=pl V (fun e=>by rw [h]at e;cases e) (fun _=>hy)
end
def Qj [Inhabited α]{x:Option α}{k:α->Option β}{r:β}(h:b=true->x.bind k=some r): ∃y,b=true->x=some y/\k y=some r:=by
 cases b with
 |true=>obtain⟨y,Y,J⟩:=bs (h rfl);exact⟨y,fun _=>⟨Y,J⟩⟩
 |false=>exact⟨default,fun e=>(by cases e)⟩
section
variable{E:En}{ty:TypeId}
def qN{c:Operand}{q:Bool}(hc:aE E.N G c (H rB b))(I:b=true->aE E.N G x (H rB q)):bR E O G ⟨dst,.pick c x (.const (.bool false)),ty,pos,after,g⟩ (H rB (b&&q)):=by
 refine zf hc (fun h=>?_) (fun h=>?_)
 ·subst h;exact I rfl
 ·subst h;exact hB
def uO{c:Operand}{q:Bool}(hc:aE E.N G c (H rB b))(I:b=false->aE E.N G x (H rB q)):bR E O G ⟨dst,.pick c (.const (.bool true)) x,ty,pos,after,g⟩ (H rB (b||q)):=by
 refine zf hc (fun h=>?_) (fun h=>?_)
 ·subst h;exact hB
 ·subst h;exact I rfl
def fI{c:Operand}{q t:Bool}(hc:aE E.N G c (H rB b))(I:b=true->aE E.N G x (H rB q))(e1:b=true->some q=some t)(e0:b=false->some false=some t):bR E O G ⟨dst,.pick c x (.const (.bool false)),ty,pos,after,g⟩ (H rB t):=by
 refine zf hc (fun h=>?_) (fun h=>?_)
 ·rw [<-so (e1 h)];exact I h
 ·rw [<-so (e0 h)];exact hB
def kD{c:Operand}{q t:Bool}(hc:aE E.N G c (H rB b))(I:b=false->aE E.N G x (H rB q))(e1:(!b)=true->some q=some t)(e0:(!b)=false->some true=some t):bR E O G ⟨dst,.pick c (.const (.bool true)) x,ty,pos,after,g⟩ (H rB t):=by
 refine zf hc (fun h=>?_) (fun h=>?_)
 ·rw [<-so (e0 (by rw [h];rfl))];exact hB
 ·rw [<-so (e1 (by rw [h];rfl))];exact I h
def F9(hi:ts[i]? =some t)(I:aE E.N G x (tT ts)):bR E O G ⟨dst,.extract x i,ty,pos,after,g⟩ t:=
 .of_pure fun a w S _ _ X=>by
  obtain⟨vs,Y,J⟩:=I S a X
  obtain⟨v,Z,h4⟩:=J.at_ i t hi
  exact⟨v,by simp [execOp,Y,Instr.extract,Z],h4⟩
def rf{k:IntKind}{m n:Int}(I:aE E.N G x (H (rI k) m))(hy:aE E.N G y (H (rI k) n)):bR E O G ⟨dst,.call ⟨.builtin .min,#[x,y],ats⟩,ty,pos,after,g⟩ (H (rI k) (min m n)):=
 .of_pure fun a w S _ _ X=>by
  have Y:a.eval x= .int k m:=eZ.1 (I S a X)
  have J:a.eval y= .int k n:=eZ.1 (hy S a X)
  refine⟨.int k (if n<m then n else m),by simp [execOp,resolve,invoke,builtin,Builtin.min_,Builtin.min2,Y,J],eZ.2 ?_⟩
  congr 1
  rw [Int.min_def]
  split<;>split<;>omega

def kq(P:Program){α β:Type}(args:α->List Ty)(res:β->Ty)(f:α->Option β):Ty where
 p:=fun S v=> ∃fid cap,v= .func (.func fid) #[] cap/\al P fid=true/\ ∀x y,f x=some y-> ∀w S' vs,SH.le S S' ->jo w S' ->tM S' (args x) vs->
  Calls P fid (vs.toArray++cap) w fun e w' => ∃v S'',e= .returned v/\gH oT w S' w' S'' /\jo w' S'' /\(res y).p S'' v
 mono:=fun h ⟨f,cap,e,hc,k⟩=>⟨f,cap,e,hc,fun x y hxy w S' vs hle=>k x y hxy w S' vs (SH.le_trans h hle)⟩
def OJ{N:Fr}{P:Program}{f:α->Option β}{fid:FuncId}(hc:al P fid=true)(hs: ∀x y,f x=some y->cI P fid (args x) (res y)):aE N G (.func fid) (kq P args res f):=fun S a _=>
 ⟨fid,#[],rfl,hc,fun x y h w S' vs _ hsat hv=>by simpa using hs x y h w S' vs hsat hv⟩
def tM.append: ∀{ts us:List Ty} {vs ws:List Value},tM S ts vs->tM S us ws->tM S (ts++us) (vs++ws)
 |[],_,[],_,_,h=>h
 |_::_,_,_::_,_,⟨Y,J⟩,h=>⟨Y,tM.append J h⟩
def pD{f:α->Option β}{fid:FuncId}{caps:List Operand}{cts:List Ty}(hc:al E.P fid=true)(hcap:hG E.N G caps cts)(hs: ∀x y,f x=some y->cI E.P fid (args x++cts) (res y)):bR E O G ⟨dst,.makeFunc (.func fid) #[] caps.toArray,ty,pos,after,g⟩ (kq E.P args res f):=
 .of_pure fun a w S _ _ X=>by
  refine⟨.func (.func fid) #[] (caps.map a.eval).toArray,by simp [execOp,Instr.makeFunc],fid,_,rfl,hc,fun x y h w' S' vs hle hsat hv=>?_⟩
  have hcv:=(hcap.tys X).mono hle
  simpa using hs x y h w' S' _ hsat (hv.append hcv)
def mQ{f:α->Option β}{fo:Operand}{x:α}{y:β}{xs:List Operand}(hfo:aE E.N G fo (kq E.P args res f))(h:f x=some y)(I:hG E.N G xs (args x)):
  bR E O G ⟨dst,.call ⟨.value fo,xs.toArray,ats⟩,ty,pos,after,g⟩ (res y):=fun a w S hS _ hF=>by
 obtain⟨fid,cap,e,hc,hs⟩:=hfo S a hF
 have hr:(execOp a.eval ⟨dst,.call ⟨.value fo,xs.toArray,ats⟩,ty,pos,after,g⟩).run E.P w= .ok (.enter fid ((xs.map a.eval).toArray++cap)) w:=by
  simp [execOp,resolve,e,Deferred.ofValue,invoke,fj hc]
 refine⟨fun c h=>(by cases h),?_⟩
 rw [hr]
 exact(hs x y h w S _ (SH.le_refl _) hS (I.tys hF)).mono fun e w' ⟨v,S',he,Y,J,Z⟩=>⟨v,he,v,S',rfl,Y,J,Z⟩
end
def cI.of{P:Program}{N:Nat}(X:P.funcs[f]? =some fn)(V:fn.body=some c)(hN:fn.ntmps=N)(hn:Nat.ble ts.length N=true)(h: ∀w0 S0,CG ⟨P,⟨N,[]⟩,oT,w0,S0,none⟩ (bodyPost P fn (EV ⟨P,⟨N,[]⟩,oT,w0,S0,none⟩ t)) c [] (sy 0 ts)):cI P f ts t:=by
 subst hN
 exact Dk X V (po hn) h
def nn{α:Type _}{r:α}(h:(none:Option α)=some r):False:=by cases h
def sD{N:Fr}:aE N G (.const (.slice none 0 0)) (tV (aK none 0 0)):=fun _ _ _=>rfl
def fQ:Nat:=2^64
section
variable{E:En}{ty:TypeId}
def F4(l:Option Nat)(cap n:Nat)(h:l=none->n=0): ∃a c,aK l cap n= .slice a n c:=by
 cases l with
 |none=>rw [h rfl];exact⟨none,0,rfl⟩
 |some b=>exact⟨_,cap,rfl⟩
def eU{r:Rp α}{n:Nat}{t:TypeId}(D:E.P.underlying t=some (.slice e))(hm:jJ mm r hg l cap xs∈O)(I:aE E.N G x (tV (aK l cap n)))(hn:n=xs.length:=by rfl):
  bR E O G ⟨dst,.call ⟨.builtin .len,#[x],#[t]⟩,ty,pos,after,g⟩ (H (rI .i64) (n:Int)):=
 .of_pure fun a w S _ ho X=>by
  have Y:a.eval x=aK l cap n:=I S a X
  have J:=(ho.mem _ hm).1
  obtain⟨ad,c,Z⟩:=F4 l cap n (fun e=>by subst e;obtain⟨_,h4,_⟩:=J;rw [hn];exact h4.1)
  refine⟨.int .i64 n,?_,eZ.2 rfl⟩
  simp [execOp,resolve,invoke,builtin,Builtin.len_,jD D,Y,Z,goInt]
end

structure Lp(P:Program){α:Type} [DecidableEq α](t:TypeId)(r:Rp α):Prop where
 guard:P.eqGuardType P.depth t=false
 run: ∀(S:SH) (cs ds:List Value) (x y:α) (d:Nat) (w:World),r.rc S cs x->r.rc S ds y->(Op.equalIn (d+20) t (r.val cs) (r.val ds)).run P w= .ok (decide (x=y)) w
section
variable{E:En}{ty:TypeId}
def yP{P:Program}{t:TypeId}(h:P.eqGuardType P.depth t=false){op:BinOp}{x y:Operand}{u v:Array Value}{w:World}:(eqGuard op t x y (.agg u) (.agg v)).run P w= .ok () w:=by
 unfold eqGuard
 cases op<;>first|rfl|simp [h]
def p5{r:Rp α}(h:r.agg=true)(cs:List Value):r.val cs= .agg cs.toArray:=by unfold Rp.val;rw [bD h]
def CR [DecidableEq α]{r:Rp α}{m n:α}(he:Lp E.P xt r)(I:aE E.N G x (H r m))(hy:aE E.N G y (H r n))(ha:r.agg=true:=by rfl):bR E O G ⟨dst,.binOp .eql xt x y yt,ty,pos,after,g⟩ (H rB (decide (m=n))):=
 .of_pure fun a w S _ _ X=>by
  obtain⟨cs,Y,J⟩:=I S a X
  obtain⟨ds,Z,h4⟩:=hy S a X
  refine⟨.bool (decide (m=n)),?_,i8.2 rfl⟩
  have hr:=he.run S cs ds m n 9980 w J h4
  have T:= @yP E.P xt he.guard .eql x y cs.toArray ds.toArray w
  rw [p5 ha,p5 ha]at hr
  simp only [execOp,Y,Z,p5 ha,sP,T,tS,binOp,Op.equal,Op.maxDepth]
  rw [show(10000:Nat)=9980+20 from rfl,hr]
  simp
def CQ [DecidableEq α]{r:Rp α}{m n:α}(he:Lp E.P xt r)(I:aE E.N G x (H r m))(hy:aE E.N G y (H r n))(ha:r.agg=true:=by rfl):bR E O G ⟨dst,.binOp .neq xt x y yt,ty,pos,after,g⟩ (H rB (!decide (m=n))):=
 .of_pure fun a w S _ _ X=>by
  obtain⟨cs,Y,J⟩:=I S a X
  obtain⟨ds,Z,h4⟩:=hy S a X
  refine⟨.bool (!decide (m=n)),?_,i8.2 rfl⟩
  have hr:=he.run S cs ds m n 9980 w J h4
  have T:= @yP E.P xt he.guard .neq x y cs.toArray ds.toArray w
  rw [p5 ha,p5 ha]at hr
  simp only [execOp,Y,Z,p5 ha,sP,T,tS,binOp,Op.equal,Op.maxDepth]
  rw [show(10000:Nat)=9980+20 from rfl,hr]
  simp
end

def re{base:Nat}{B:Nat->Prop}(h:cZ base B w S O)(k:gH oT w S w' S'){e:OE}(he:e.p w' S')(hn: ∀b,e.fp b->w.heap.size<=b)(V:base<=w.heap.size:=by first|assumption|exact St.base_le (by assumption)):cZ base B w' S' (e::O):=
 ⟨⟨he,fun b hb' => .inl (xo V (hn b hb'))⟩,fun f X b hb' hfb=>by
  have:=f.here (cZ.mem h f X).1 b hfb
  have:=hn b hb'
  omega,h.ext0 k⟩
def gk(P:Program)(f:FuncId)(ts:List Ty)(mm:Bool){α:Type}(r:Rp α)(hg:TypeId)(xs:List α):Prop:=
 ∀w S vs,jo w S->tM S ts vs->Calls P f vs.toArray w fun e w' => ∃l cap S',e= .returned (aK l cap xs.length)/\gH oT w S w' S' /\jo w' S' /\(jJ mm r hg l cap xs).holds w.heap.size oT w' S'
def FO{r:Rp α}(h:(jJ mm r hg l cap xs).holds w.heap.size oT w' S')(he:gH oT w S w' S')(hs:jo w' S'):
  ∃S'',gH oT w S w' S'' /\jo w' S'' /\(H (gy r) xs).p S'' (aK l cap xs.length):=by
 have st:St ⟨default,⟨0,[]⟩,oT,w,S,none⟩ [jJ mm r hg l cap xs] [] ⟨#[],[]⟩ w' S' :=⟨he,hs,⟨h,fun _ X=>(by cases X),trivial⟩,⟨rfl,rfl,fun _ _ h=>(by simp [bJ]at h)⟩⟩
 obtain⟨S'',Y,J⟩:=st.settle
 exact⟨S'',Y.ext,Y.sat,J⟩
def gk.spec{P:Program}{r:Rp α}(h:gk P f ts mm r hg xs):cI P f ts (H (gy r) xs):=fun w S vs hs hv=>
 (h w S vs hs hv).mono fun e w' ⟨l,cap,S',he,Y,J,Z⟩=>by
  obtain⟨S'',h4,h5,h6⟩:=FO Z Y J
  exact⟨_,S'',he,h4,h5,h6⟩
def QI(E:En)(mm:Bool){α:Type}(r:Rp α)(hg:TypeId)(xs:List α):Ending->World->Prop:=fun e w' => ∃l cap S',e= .returned (aK l cap xs.length)/\gH E.B E.w0 E.S0 w' S' /\jo w' S' /\(jJ mm r hg l cap xs).holds E.w0.heap.size E.B w' S'
def gk.of{P:Program}{N:Nat}{r:Rp α}(X:P.funcs[f]? =some fn)(V:fn.body=some c)(hN:fn.ntmps=N)(hn:Nat.ble ts.length N=true)(h: ∀w0 S0,CG ⟨P,⟨N,[]⟩,oT,w0,S0,none⟩ (bodyPost P fn (QI ⟨P,⟨N,[]⟩,oT,w0,S0,none⟩ mm r hg xs)) c [] (sy 0 ts)):gk P f ts mm r hg xs:=by
 subst hN
 intro w S vs hs hv
 exact ma.1 (callsIn_of_wp (F:=fw none) (n:=0) X V trivial (h w S _ w S ⟨gH.refl _ _ _,hs,trivial,oX hv _ (po hn)⟩))
section
variable{E:En}
def gn{P:Program}{N:Nat}{B:Nat->Prop}{w0:World}{S0:SH}{r:Rp α}{n:Nat}(hr:fn.results= #[.tmp k])(hk:bJ G k=some (tV (aK l cap n)))(hn:n=xs.length:=by rfl):
  AT ⟨P,⟨N,[]⟩,B,w0,S0,none⟩ (bodyPost P fn (QI ⟨P,⟨N,[]⟩,B,w0,S0,none⟩ mm r hg xs)) .ret (jJ mm r hg l cap xs::O) G:=fun a w S st=>by
 subst hn
 have hv:a.tmps.getD k undef=aK l cap xs.length:=st.facts.at_ k _ hk
 exact⟨st.facts.defers,_,m4 P fn k hr _ _,l,cap,S,by rw [hv],st.ext,st.sat,st.own.1⟩
section
variable{ty:TypeId}
def IR{xs:List Operand}{r:Rp α}{u:Nat->Option Nat->Ty}(hc:al E.P f=true)(hs:gk E.P f ts mm r hg ys)(I:hG E.N G xs ts)(hd:Nat.blt d E.N.n=true)(hu: ∀l cap w0 S,(jJ mm r hg l cap ys).p w0 S->(u cap l).p S (aK l cap ys.length))(k: ∀l cap,RG E ops Q rest (jJ mm r hg l cap ys::O) ((d,u cap l)::G)):
  RG E ops Q (⟨some d,.call ⟨.value (.func f),xs.toArray,ats⟩,ty,pos,after,none⟩::rest) O G:= .of rfl fun a w S st=>by
 have hr:(execOp a.eval ⟨some d,.call ⟨.value (.func f),xs.toArray,ats⟩,ty,pos,after,none⟩).run E.P w= .ok (.enter f (xs.map a.eval).toArray) w:=by
  simp [execOp,resolve,Act.eval,Deferred.ofValue,invoke,fj hc]
 refine⟨fun c h=>(by cases h),?_⟩
 rw [hr]
 refine(hs w S _ st.sat (I.tys st.facts)).mono fun e w' ⟨l,cap,S',he,Y,J,Z⟩=>⟨_,he,?_⟩;refine k l cap _ _ S' ⟨st.ext.step0 Y,J,re st.own Y Z.1 (fun b V=>(Z.2 b V).resolve_right id) st.base_le,(st.facts.mono Y.keep).put hd (hu l cap w' S' Z.1)⟩
def La{xs:List Operand}{r:Rp α}(hc:al E.P f=true)(hs:gk E.P f ts false r hg ys)(I:hG E.N G xs ts)(hd:Nat.blt d E.N.n=true)(k: ∀l cap,RG E ops Q rest (fi r hg l cap ys::O) ((d,tV (aK l cap ys.length))::G)):
  RG E ops Q (⟨some d,.call ⟨.value (.func f),xs.toArray,ats⟩,ty,pos,after,none⟩::rest) O G:=IR (u:=fun cap l=>tV (aK l cap ys.length)) hc hs I hd (fun _ _ _ _ _=>rfl) k
def fh{r:Rp α}{xs:List Operand}{t:TypeId}{n sz:Nat}{agg:Bool}(D:E.P.underlying t=some (.slice hg))(ti:TI E.P hg sz bytes agg z)(hsz:r.sz=sz)(h0:Nat.blt 0 sz=true)(hp:parts=vn 0 xs)(hn:n=ys.length)(V:Nat.ble (n*sz) 16777216=true)(I:hG E.N G xs (ys.map (H r)))(hd:Nat.blt d E.N.n=true)(k: ∀l cap,RG E ops Q rest (fi r hg l cap ys::O) ((d,tV (aK l cap ys.length))::G)):
  RG E ops Q (⟨some d,.buildSlice t n parts.toArray,ty,pos,after,none⟩::rest) O G:= .of rfl fun a w S st=>by
 obtain⟨cs,hc,hr⟩:=uf D ti hsz hn V (I.tys st.facts) w
 subst hsz
 subst hp
 have hb' :=po V
 have h0' :0<r.sz:=by simpa [tA] using h0
 have hnle:n<=n*r.sz:=Nat.le_mul_of_pos_right n h0'
 have hcl:=mi hc
 obtain⟨he,hs',hno⟩:=ij (w:=w) (.cells cs.toArray hg (0,0)) st.sat
 have hrun:(execOp a.eval ⟨some d,.buildSlice t n (vn 0 xs).toArray,ty,pos,after,none⟩).run E.P w= .ok (.value (.slice (some ⟨w.heap.size,0,none⟩) n n)) (w.alloc (.cells cs.toArray hg (0,0))):=by
  simp only [execOp,sP,hr,tS,Sem.run_pure]
 refine⟨fun c h=>(by cases h),?_⟩
 rw [hrun]
 refine k (some w.heap.size) n _ _ S ⟨st.ext.step0 he,hs',re st.own he ⟨cs,⟨cs.toArray,wu w _,by omega,by simp only [maxLen];omega,by simp [hcl,hn],by simp [<-hcl]⟩,hc,fun b V=>by rw [<-pZ V];exact hno⟩ (fun b V=>zq (pZ V)) st.base_le,st.facts.put hd ?_⟩
 ·show _=aK _ _ _
  rw [<-hn];rfl
def uB{r:Rp α}{t:TypeId}(D:E.P.underlying t=some (.slice e))(I:aE E.N G x (H (gy r) xs))(hd:Nat.blt d E.N.n=true)(k: ∀b,(b=true->xs=[])->RG E ops Q rest O ((d,H rB b)::G)):RG E ops Q (⟨some d,.binOp .eql t x (.const (.slice none 0 0)) yt,ty,pos,after,none⟩::rest) O G:= .of rfl fun a w S st=>by
 obtain⟨ad,cap,Y,_,_,J⟩:=lC.1 (I S a st.facts)
 have hrun:(execOp a.eval ⟨some d,.binOp .eql t x (.const (.slice none 0 0)) yt,ty,pos,after,none⟩).run E.P w= .ok (.value (.bool ad.isNone)) w:=by
  have Z:(Op.equal t (.slice ad xs.length cap) (.slice none 0 0)).run E.P w= .ok ad.isNone w:=wD fun d=>by
   cases ad<;>simp [Op.equalIn,jD D]
  have hcn:a.eval (.const (.slice none 0 0))= .slice none 0 0:=rfl
  simp [execOp,Y,hcn,eqGuard,binOp,Z]
 refine⟨fun c h=>(by cases h),?_⟩
 rw [hrun]
 refine k ad.isNone (fun e=>?_) _ _ S (st.step (gH.refl _ _ _) st.sat hd (i8.2 rfl))
 rcases J with J|⟨b,off,c,hg,fr,e1,_⟩
 ·exact J
 ·subst e1;cases e
end
end

def ax(b off:Nat):Value:= .pointer (some ⟨b,off,none⟩)
def bx{α:Type}(r:Rp α)(hg:TypeId)(b:Nat)(x:α):OE where
 fp:=fun k=>k=b
 p:=fun w S=>S b=none/\ ∃c,w.heap[b]? =some (.cells c hg (0,0))/\r.rc S c.toList x
 here:=by
  intro w S h k hk
  subst hk
  obtain⟨Y,c,J,_⟩:=h
  exact(vx.1 J).1
 kept:=by
  intro C w w' S S' h k hC
  obtain⟨Y,c,J,Z⟩:=h
  have hlt:=(vx.1 J).1
  exact⟨by rw [k.old b hlt (hC b rfl)];exact Y,c,by rw [k.heap b hlt (hC b rfl)];exact J,r.mono k.keep Z⟩
def rV:Rp Value where
 sz:=1
 agg:=false
 rc:=fun _ cs v=>cs=[v]/\v.oneCell' =true
 mono:=fun _ h=>h
 len:=fun h=>by rw [h.1];rfl
 one:=fun h c hc=>by rw [h.1]at hc;simp at hc;subst hc;exact h.2
 sc:=fun _=>rfl
def p6{u:Value}:(H rV u).p S v↔v=u/\u.oneCell' =true:=by
 constructor
 ·rintro⟨cs,rfl,Y,J⟩;subst Y;exact⟨rfl,J⟩
 ·rintro⟨rfl,h⟩;exact⟨[v],rfl,rfl,h⟩
def g9{α β:Type}(r:Rp α)(off:Nat)(q:Rp β)(set:α->β->α):Prop:= ∀S cs x ds y,r.rc S cs x->q.rc S ds y->r.rc S (cs.take off++ds++cs.drop (off+q.sz)) (set x y)
section
variable{E:En}{e:Exit}
def St.settleB{r:Rp α}{b:Nat}{x:α}(h:St E (bx r hg b x::O) G a w S)(hk:bJ G k=some (tV (ax b 0))): ∃S',St E O ((k,bw r x)::G) a w S' :=by
 obtain⟨⟨hn,cur,Z,h4⟩,_⟩:=h.own.1
 obtain⟨h8,hle,_,_⟩:=sX h rfl Z (qM _) hn
 have hv:a.tmps.getD k undef=ax b 0:=h.facts.at_ k _ hk
 refine⟨_,h8.cons ⟨b,0,cur,hg,(0,0),hv,by simp [SH.set],?_⟩⟩
 have hl:cur.size=r.sz:=by have:=r.len h4;simpa using this
 have:=r.mono hle h4
 rw [tQ,nE (by simp [hl])];exact this
def aD{r:Rp α}{b:Nat}{x:α}(k:Nat)(hk:bJ G k=some (tV (ax b 0)))(h:RG E ops Q rest O ((k,bw r x)::G)):RG E ops Q rest (bx r hg b x::O) G:=
 fun a w _ st=>let⟨S',st'⟩:=st.settleB hk;h a w S' st'
def aI{r:Rp α}{b:Nat}{x:α}(k:Nat)(hk:bJ G k=some (tV (ax b 0)))(h:AT E Q e O ((k,bw r x)::G)):AT E Q e (bx r hg b x::O) G:=
 fun a w _ st=>let⟨S',st'⟩:=st.settleB hk;h a w S' st'
section
variable{ty:TypeId}
def aC{r:Rp α}{x:α}{sz:Nat}{agg:Bool}(ti:TI E.P hg sz bytes agg z)(I: ∀S,r.rc S z x)(hd:Nat.blt d E.N.n=true)(k: ∀b,RG E ops Q rest (bx r hg b x::O) ((d,tV (ax b 0))::G)):RG E ops Q (⟨some d,.alloc hg,ty,pos,after,none⟩::rest) O G:= .of rfl fun a w S st=>by
 obtain⟨zv,hzr,hzc⟩:=ti.zero w
 obtain⟨he,hs',hno⟩:=ij (w:=w) (.cells z.toArray hg (0,0)) st.sat
 have hrun:(execOp a.eval ⟨some d,.alloc hg,ty,pos,after,none⟩).run E.P w= .ok (.value (ax w.heap.size 0)) (w.alloc (.cells z.toArray hg (0,0))):=by
  simp [execOp,Instr.alloc,hzr,newVar,newRow,hzc,ax]
 refine⟨fun c h=>(by cases h),?_⟩
 rw [hrun]
 exact k w.heap.size _ _ S ⟨st.ext.step0 he,hs',re st.own he ⟨hno,z.toArray,wu w _,by simpa using I S⟩ (fun b V=>zq V.symm) st.base_le,st.facts.put hd rfl⟩
def rz{r:Rp α}{v:α}(I:aE E.N G x (H r v))(hd:Nat.blt d E.N.n=true)(k: ∀b,RG E ops Q rest (bx r hg b v::O) ((d,tV (ax b 0))::G)):RG E ops Q (⟨some d,.box hg x,ty,pos,after,none⟩::rest) O G:= .of rfl fun a w S st=>by
 obtain⟨cs,hv,hc⟩:=I S a st.facts
 obtain⟨he,hs',hno⟩:=ij (w:=w) (.cells cs.toArray hg (0,0)) st.sat
 have hrun:(execOp a.eval ⟨some d,.box hg x,ty,pos,after,none⟩).run E.P w= .ok (.value (ax w.heap.size 0)) (w.alloc (.cells cs.toArray hg (0,0))):=by
  simp [execOp,Instr.box,newVar,newRow,hv,sj hc,ax]
 refine⟨fun c h=>(by cases h),?_⟩
 rw [hrun]
 exact k w.heap.size _ _ S ⟨st.ext.step0 he,hs',re st.own he ⟨hno,cs.toArray,wu w _,by simpa using hc⟩ (fun b V=>zq V.symm) st.base_le,st.facts.put hd rfl⟩
def nt{base:Nat}{B:Nat->Prop}{b:Nat}(hs:jo w S)(f f' :OE)(h:cZ base B w S (f::O))(X: ∀k,f.fp k↔k=b)(hf' : ∀k,f'.fp k↔k=b)(T:w'.os=w.os/\w'.tape=w.tape/\w'.output=w.output/\w'.heap.size=w.heap.size/\w.drawn<=w'.drawn)(ho: ∀k,k≠b->w'.heap[k]? =w.heap[k]?)(hp:f'.p w' S)(hno:S b=none):gH (fun k=>k=b) w S w' S/\jo w' S/\cZ base B w' S (f' ::O):=by
 have hext:gH (fun k=>k=b) w S w' S:=⟨T.1,T.2.1,T.2.2.1,T.2.2.2.2,by omega,fun k _ hk=>ho k hk,SH.le_refl _,fun _ _ _=>rfl⟩
 refine⟨hext,hs.same fun k o hk=>?_,⟨hp,fun k hk=>h.1.2 k ((X k).2 ((hf' k).1 hk))⟩,fun g hgm k hk=>h.2.1 g hgm k ((X k).2 ((hf' k).1 hk)),h.2.2.ext hext fun g hgm k hk hkb=>h.2.1 g hgm k ((X k).2 hkb) hk⟩
 have hne:k≠b:=fun e=>by subst e;rw [hno]at hk;cases hk
 exact ho k hne
def iG{P:Program}{q:Rp α}{sz:Nat}{agg:Bool}(ti:TI P U sz bytes agg z)(hsz:q.sz=sz){ds:List Value}{y:α}(hy:q.rc S ds y){b:Nat}{cur:Array Value}(T:w.heap[b]? =some (.cells cur hg (0,0)))(hfit:off+q.sz<=cur.size):
  ∃w',(storeVar U ⟨b,off,none⟩ (q.val ds)).run P w= .ok () w' /\w'.os=w.os/\w'.tape=w.tape/\w'.output=w.output/\(w'.heap.size=w.heap.size/\w.drawn<=w'.drawn)/\w'.heap[b]? =some (.cells (cur.toList.take off++ds++cur.toList.drop (off+q.sz)).toArray hg (0,0))/\ ∀k,k≠b->w'.heap[k]? =w.heap[k]? :=by
 have hl:=q.len hy
 have hst:=run_storeCells_at P b off hg ds 0 cur w T (by omega) (q.one hy)
 simp only [tP]at hst
 refine⟨w.setRow b (cur.toList.take off++ds++cur.toList.drop (off+ds.length)).toArray,?_,rfl,rfl,rfl,⟨?_,iQ _⟩,?_,fun k hk=>setRow_other w b k _ hk⟩
 ·generalize (cur.toList.take off++ds++cur.toList.drop (off+ds.length)).toArray=hf at hst ⊢
  simp only [storeVar,sP,ti.sizeOf,tS,sj hy,BF,hl,hsz]
  simp only [ne_eq,not_true_eq_false,iB]
  simpa using hst
 ·simp [World.setRow]
 ·rw [setRow_heap w b cur _ hg _ T,<-hl]
def cW{r:Rp α}{set:α->β->α}{x:α}{y:β}{b sz:Nat}{agg:Bool}{p v:Operand}(ti:TI E.P U sz bytes agg z)(hsz:q.sz=sz)(hset:g9 r off q set)(hoff:Nat.ble (off+q.sz) r.sz=true)(hp:aE E.N G p (tV (ax b off)))(hv:aE E.N G v (H q y))(k:RG E ops Q rest (bx r hg b (set x y)::O) G):RG E ops Q (⟨none,.store U p v,ty,pos,after,none⟩::rest) (bx r hg b x::O) G:= .of rfl fun a w S st=>by
 have Y:a.eval p=ax b off:=hp S a st.facts
 obtain⟨ds,J,Z⟩:=hv S a st.facts
 obtain⟨⟨hno,cur,h5,h6⟩,_⟩:=st.own.1
 have hl:=r.len h6
 have hoff' :=po hoff
 obtain⟨w',hr,e1,e2,e3,e4,e5,e6⟩:=iG ti hsz Z h5 (off:=off) (by simp at hl;omega)
 have hrun:(execOp a.eval ⟨none,.store U p v,ty,pos,after,none⟩).run E.P w= .ok .skip w' :=by
  simp [execOp,Y,J,Instr.storeAt,ax,Instr.sureAddr,hr]
 refine⟨fun c h=>(by cases h),?_⟩
 rw [hrun]
 obtain⟨g1,g2,g3⟩:=nt (O:=O) st.sat (bx r hg b x) (bx r hg b (set x y)) st.own (fun _=>sd) (fun _=>sd) ⟨e1,e2,e3,e4.1,e4.2⟩ e6 ⟨hno,_,e5,by simpa using hset S _ _ _ _ h6 Z⟩ hno
 exact k _ _ S ⟨st.ext.step g1 (fun c hc=>st.own.1.2 c hc),g2,g3,st.facts⟩
def ae{r:Rp α}:g9 r 0 r (fun _ y=>y):=fun S cs x ds y Y J=>by
 have hl:=r.len Y
 simpa [<-hl] using J
end
section
variable{ty:TypeId}
def Bu{sz b o:Nat}{p:Operand}(X:cG E.P hg i=some (off,sz))(h0:Nat.beq sz 0=false)(hp:aE E.N G p (tV (ax b o))):bR E O G ⟨dst,.fieldAddr hg p i,ty,pos,after,g⟩ (tV (ax b (o+off))):=
 .of_pure fun a w S _ _ hF=>by
  have Y:a.eval p=ax b o:=hp S a hF
  obtain⟨fs,f,e1,e2,e3,e4⟩:=xH X
  have h0' :sz≠0:=fun e=>by subst e;simp at h0
  refine⟨ax b (o+off),?_,rfl⟩
  simp [execOp,Y,ax,Instr.fieldAt,jD e1,e2,Instr.sureAddr,fieldPlace,e4,h0',e3,iA]
def bf{r:Rp α}{get:α->β}{x:α}{b sz:Nat}{agg:Bool}{p:Operand}(ti:TI E.P U sz bytes agg z)(hsz:q.sz=sz)(hag:q.agg=agg)(hget:mf r off q get)(hm:bx r hg b x∈O)(hp:aE E.N G p (tV (ax b off))):
  bR E O G ⟨dst,.load U p,ty,pos,after,g⟩ (H q (get x)):=
 .of_pure fun a w S _ ho X=>by
  have Y:a.eval p=ax b off:=hp S a X
  obtain⟨⟨_,cur,h5,h6⟩,_⟩:=ho.mem _ hm
  have h7:=hget S _ _ h6
  refine⟨_,?_,_,rfl,h7⟩
  simp [execOp,Y,ax,Instr.loadAt,Instr.sureAddr,i9 ti h5 hsz hag h7]
def bN{r:Rp α}:mf r 0 r (fun x=>x):=fun S cs x h=>by
 have hl:=r.len h
 simpa [<-hl] using h
end
end

def ee{p:Rp α}:g9 (cq p q) 0 p (fun x y=>(y,x.2)):=fun S cs x ds y h k=>by
 obtain⟨a,b,e,Y,J⟩:=h
 have hl:=p.len Y
 refine⟨ds,b,?_,k,J⟩
 rw [e,<-hl];simp
def aA{p:Rp α}{s:Rp γ}{off' :Nat}{u:β->γ->β}(h:g9 q off s u)(ho:off' =p.sz+off):g9 (cq p q) off' s (fun x y=>(x.1,u x.2 y)):=fun S cs x ds y I hy=>by
 obtain⟨a,b,e,Y,J⟩:=I
 have hl:=p.len Y
 refine⟨a,b.take off++ds++b.drop (off+s.sz),?_,Y,h S b x.2 ds y J hy⟩
 rw [e,ho,<-hl,List.take_length_add_append,show a.length+off+s.sz=a.length+(off+s.sz)from by omega,List.drop_length_add_append]
 simp
def cL{p:Rp α}{q:Rp γ}{u:α->γ->α}{f:β->α}{set:β->γ->β}(h:g9 p off q u)(X: ∀x y,f (set x y)=u (f x) y):g9 (nI p f) off q set:=fun S cs x ds y I hy=>by
 show p.rc S _ (f (set x y))
 rw [X]
 exact h S cs (f x) ds y I hy
def n9(P:Program)(hg:TypeId):Option (List (Nat×Nat)):=
 match P.underlying hg with
 |some (.struct fs)=>fs.toList.mapM fun f=>(P.info? f.type).map fun q=>(f.offset,q.size)
 |_=>none
def z7{P:Program}: ∀(fs:List Field) (ps:List (Nat×Nat)) (w:World),fs.mapM (fun f=>(P.info? f.type).map fun q=>(f.offset,q.size))=some ps->
  (fs.mapM (fun f=>do pure (f.offset,<-sizeOf f.type):Field->Sem (Nat×Nat))).run P w= .ok ps w
 |[],ps,w,h=>by
  simp at h;subst h
  simp
 |f::fs,ps,w,h=>by
  simp only [List.mapM_cons]at h ⊢
  cases hq:P.info? f.type with
  |none=>simp [hq]at h
  |some q=>
   cases hr:fs.mapM (fun f=>(P.info? f.type).map fun q=>(f.offset,q.size))with
   |none=>simp [hq,hr]at h
   |some qs=>
    simp [hq,hr]at h
    subst h
    have ih:=z7 fs qs w hr
    simp [sizeOf,typeInfo,hq]at ih ⊢
    simp [ih]
section
variable{E:En}{ty:TypeId}
def BP(E:En)(G:jM){α:Type}(r:Rp α)(ps:List (Nat×Nat)):α->List (Nat×Operand)->α->Prop
 |x,[],y=>x=y
 |x,(i,o)::rest,y=> ∃(β:Type) (q:Rp β) (set:α->β->α) (off:Nat) (v:β),ps[i]? =some (off,q.sz)/\g9 r off q set/\Nat.ble (off+q.sz) r.sz=true/\aE E.N G o (H q v)/\BP E G r ps (set x v) rest y
def AB{α:Type}{r:Rp α}{ps:List (Nat×Nat)}{S:SH}{a:Act}(hF:cP E.N S a G): ∀(parts:List (Nat×Operand)) (x y:α) (cs:List Value),BP E G r ps x parts y->r.rc S cs x->
  ∃ds,r.rc S ds y/\Instr.fill (ps.toArray[·]?) cs.toArray (parts.map fun p=>(p.1,a.eval p.2))=some ds.toArray
 |[],x,y,cs,h,I=>by
  have e:x=y:=h
  subst e
  exact⟨cs,I,rfl⟩
 |(i,o)::rest,x,y,cs,⟨β,q,set,off,v,Y,J,Z,h4,h5⟩,I=>by
  obtain⟨c,hv,hc⟩:=h4 S a hF
  have hl:=q.len hc
  have hlr:=r.len I
  have h3' :=po Z
  have hcells:(a.eval o).cells=c.toArray:=by rw [hv];exact sj hc
  obtain⟨ds,h6,h7⟩:=AB hF rest _ y _ h5 (J S cs x c v I hc)
  refine⟨ds,h6,?_⟩
  have hps:ps.toArray[i]? =some (off,q.sz):=by simpa using Y
  have hs:(a.eval o).cells.size=q.sz:=by rw [hcells];simpa using hl
  have h8:=wz (a.eval o) off (cs.take off) ((cs.drop off).take q.sz) (cs.drop (off+q.sz)) (by rw [hs];simp;omega) (by simp;omega)
  have e1:cs.take off++(cs.drop off).take q.sz++cs.drop (off+q.sz)=cs:=by
   rw [jr,<-pX,r0,r0]
  rw [e1]at h8
  simp only [pn,Instr.fill,hps]
  rw [bo (by simp [hs,hlr];omega),h8,hcells]
  simpa using h7
def bP{r:Rp α}{x y:α}{ps:List (Nat×Nat)}{sz:Nat}{agg:Bool}(ti:TI E.P hg sz bytes agg z)(hp:n9 E.P hg=some ps)(hz: ∀S,r.rc S z x)(V:BP E G r ps x parts y)(ha:r.agg=true:=by rfl):
  bR E O G ⟨dst,.build hg parts.toArray,ty,pos,after,g⟩ (H r y):=
 .of_pure fun a w S _ _ hF=>by
  obtain⟨zv,hzr,hzc⟩:=ti.zero w
  obtain⟨ds,Y,J⟩:=AB hF parts x y z V (hz S)
  unfold n9 at hp
  split at hp
  ·rename_i fs hu
   have hpl:=z7 fs.toList ps w hp
   have hpl2:(fs.mapM (fun f=>do pure (f.offset,<-sizeOf f.type):Field->Sem (Nat×Nat))).run E.P w= .ok ps.toArray w:=by
    have hfs:fs=fs.toList.toArray:=by simp
    generalize fs.toList=l at hfs hpl
    subst hfs
    rw [List.mapM_toArray,Sem.run_map,hpl]
    rfl
   refine⟨.agg ds.toArray,?_,ds,(p5 ha ds).symm,Y⟩
   simp only [execOp,Instr.build,sP,hzr,tS,jD hu,hpl2,hzc]
   have hm:(parts.toArray.map fun(i,x)=>(i,a.eval x)).toList=parts.map fun p=>(p.1,a.eval p.2):=by simp
   rw [hm,J]
   simp
  ·cases hp
end
section
def gE{P:Program}{N:Nat}{B:Nat->Prop}{w0:World}{S0:SH}{r:Rp α}{x:α}{sz:Nat}{agg:Bool}(hr:fn.results= #[.cell k hg])(ti:TI P hg sz bytes agg z)(hsz:r.sz=sz)(hag:r.agg=agg)(hk:bJ G k=some (bw r x)):
  AT ⟨P,⟨N,[]⟩,B,w0,S0,none⟩ (bodyPost P fn (EV ⟨P,⟨N,[]⟩,B,w0,S0,none⟩ (H r x))) .ret O G:=fun a w S st=>by
 obtain⟨b,off,c,U,fr,Y,J,Z⟩:=st.facts.at_ k _ hk
 obtain⟨c',h4,h5⟩:=st.sat.part J (r.len Z)
 rw [<-h5]at Z
 refine⟨st.facts.defers,r.val ((c'.toList.drop off).take r.sz),?_,_,S,rfl,st.ext,st.sat,_,rfl,Z⟩
 have hl:=i9 ti h4 hsz hag Z
 have h1' :a.tmps[k]?.getD undef=Value.pointer (some ⟨b,off,none⟩):=by simpa [Dv] using Y
 simp [results,hr,h1',asAddr,hl]
end
end Go.Proofs.YtbmmihfagmchaaaGreat

