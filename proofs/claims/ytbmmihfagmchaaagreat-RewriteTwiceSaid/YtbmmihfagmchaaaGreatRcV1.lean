/- cW of this claim: W1, W49, W2, W3, W4, W5, W6, W7, W8, W9, W10, W11, W12, W13, W14. -/
import Derived.WalkKit
import Derived.Orders
import Derived.Lone
import Derived.RunT
import Derived.Calls
import Derived.RangeFuncIn
import Derived.TacticsIn
import Derived.OrdersIn
import Derived.LoopIn
import Derived.Laws.AppendOwn
import Derived.Deep.Upon
import Derived.Lib.AppendStr
import Derived.IntWalk
set_option linter.all false
-- TABI
namespace Go.Proofs.YtbmmihfagmchaaaGreat
open Go
def bo:= @Option.bind_some
def bn:= @if_neg
def bE:= @if_pos
def mp:= @List.mem_cons_self
def nu:= @List.mem_cons_of_mem
def qr:= @List.getElem?_eq_some_iff
def rg:= @List.getElem?_eq_getElem
def dr:= @Nat.le_refl
def jx:= @Bool.false_eq_true
def gB:= @List.mem_cons
def jO:= @List.length_append
def jY:= @List.mem_singleton
def jC:= @List.append_assoc
def jv:= @List.length_cons
def jX:= @Bool.and_eq_true
def je:= @List.nil_append
def jV:= @List.all_eq_true
def nM:= @List.take_of_length_le
def nL:= @Nat.eq_of_beq_eq_true
def jB:= @run_underlying
def qC:= @List.getElem?_append_right
def pz:= @Nat.le_of_ble_eq_true
def gE:= @if_false
def vj:= @List.eq_nil_of_length_eq_zero
def lz:= @Nat.lt_or_ge
def mq:= @Bool.not_true
def vM:= @List.take_append_of_le_length
def gu:= @if_true
def sn:= @List.take_append_drop
def vi:= @List.getElem?_append_left
def sm:= @List.mem_of_getElem?
def vL:= @Array.getElem?_eq_some_iff
def pT:= @List.length_nil
def mJ:= @Nat.zero_le
def vK:= @Array.getElem?_replicate
def qa:= @Option.some.inj
def p9:= @List.mem_append
def py:= @List.map_cons
def p8:= @List.drop_drop
def wE:= @List.getElem?_take_of_lt
def xB:= @List.drop_eq_getElem_cons
def rR:= @List.append_nil
def ue:= @List.getElem?_drop
def ud:= @Nat.lt_of_lt_of_le
def pS:= @Nat.zero_add
def uc:= @Result.andThen_ok
def t8:= @Int.toNat_natCast
def wD:= @Nat.mul_le_mul_right
def rQ:= @List.mem_map
def sX:= @getD_set_true
def yZ:= @Bool.or_eq_false_iff
def vh:= @Nat.min_eq_left
def vJ:= @List.any_eq_true
def t6:= @List.drop_zero
def DD:= @List.drop_append_of_le_length
def sW:= @Sem.run_bind
def wC:= @Bool.not_eq_true
def Bq:= @List.drop_of_length_le
def DC:= @Array.getD_eq_getD_getElem?
def vI:= @List.take_take
def wB:= @Bool.or_eq_true
def xA:= @List.cons_append
def CC:= @List.filter_cons_of_neg
def tZ:= @Nat.add_zero
def Bp:= @List.drop_eq_nil_iff
def Bo:= @Bool.and_eq_true_iff
def CB:= @Option.map_eq_some_iff
def CA:= @List.drop_eq_nil_of_le
def HW:= @List.take_succ_eq_append_getElem
def yY:= @Nat.lt_succ_self
def Bn:= @List.map_congr_left
def tY:= @Nat.add_mul
def yX:= @List.map_append
def Bm:= @List.pairwise_cons
def vH:= @List.map_nil
def tM:= @Nat.blt_eq
def zr:= @List.take_length
def zq:= @List.length_take
def zp:= @List.length_map
def zn:= @Bool.eq_iff_iff
def Fw:= @List.getElem?_cons_zero
def Bk:= @List.getElem_mem
def Bj:= @List.length_drop
def xz:= @Nat.sub_self
def yW:= @Bool.true_and
def xy:= @Nat.le_trans
def zm:= @List.drop_take
def Cy:= @Bool.eq_false_iff
def yx:= @Array.length_toList
def vv:= @List.mem_filter
def zz:= @List.getElem?_eq_none
def ug:= @Bool.false_or
def sv:= @getD_set_ne
def yw:= @List.getElem?_map
def yu:= @Bool.not_eq_true'
def qD:= @mem_ready
def vu:= @List.all_cons
def ss:= @bne_iff_ne
def wF:= @heap_alloc_new
def uf:= @Prod.mk.inj
def yr:= @Option.map_some
def DH:= @Option.isSome_iff_exists
def BO:= @List.mem_iff_getElem
def BN:= @List.mem_append_left
def tE:= @beq_iff_eq
def zy:= @decide_eq_true_eq
def DG:= @List.filter_cons_of_pos
def DF:= @List.contains_iff_mem
def BM:= @List.ext_getElem?
def BL:= @List.size_toArray
def zx:= @Bool.not_false
def BK:= @Option.getD_some
def yq:= @List.map_map
def G4:= @decide_eq_false_iff_not
def sr:= @Iff.rfl
def zw:= @Bool.and_true
def BJ:= @List.length_set
def G3:= @Array.toList_replicate
def G2:= @MapKept.run_getObj_map
def BI:= @Bool.and_assoc
def G1:= @List.countP_replicate
def zu:= @Nat.le_of_eq
def G0:= @MapKept.run_checkKey
def BH:= @List.any_cons

def Eg:Obj->Obj->Prop
 | .cells c E fr,o' => ∃d:List Value,o' = .cells (c.toList++d).toArray E fr
 |o,o' =>o' =o
variable{o:Oper}
def qU(o:Obj):Eg o o:=by
 cases o<;>first|rfl|exact⟨[],by simp⟩
variable{c:Code}{cells:List Value}{d:Nat}{fr:Nat×Nat}{k:Nat}{o' :Obj}
def B0{o o'' :Obj}(h:Eg o o')(k:Eg o' o''):Eg o o'' :=by
 cases o with
 |cells c E fr=>
  obtain⟨d,rfl⟩:=h
  obtain⟨d',rfl⟩:=k
  exact⟨d++d',by simp⟩
 |_=>cases h;exact k
variable{off:Nat}
def wV{c:Array Value}{E:TypeId}(h:Eg (.cells c E fr) o'){n:Nat}(hl:((c.toList.drop off).take n).length=n):
  ∃c',o' = .cells c' E fr/\(c'.toList.drop off).take n=(c.toList.drop off).take n:=by
 obtain⟨d,rfl⟩:=h
 refine⟨_,rfl,?_⟩
 by_cases hn:n=0
 ·subst hn;simp
 simp only [zq,Bj]at hl
 rw [DD (by omega),vM (by simp only [Bj];omega)]
abbrev SH:=Nat->Option Obj
def SH.le(S S' :SH):Prop:= ∀b o,S b=some o-> ∃o',S' b=some o' /\Eg o o'
variable{S:SH}
def SH.le_refl(S:SH):SH.le S S:=fun _ o h=>⟨o,h,qU o⟩
variable{S' S'' :SH}{b:Bool}{e:TypeId}
def SH.le_trans(h:SH.le S S')(k:SH.le S' S''):SH.le S S'' :=fun b o e=>let⟨o',Y,J⟩:=h b o e;let⟨o'',Z,h4⟩:=k b o' Y;⟨o'',Z,B0 J h4⟩
structure Ty where
 p:SH->Value->Prop
 mono: ∀{S S' :SH} {v:Value},SH.le S S' ->p S v->p S' v

structure Rp(α:Type) where
 sz:Nat
 agg:Bool
 rc:SH->List Value->α->Prop
 mono: ∀{S S' :SH} {cs:List Value} {x:α},SH.le S S' ->rc S cs x->rc S' cs x
 len: ∀{S:SH} {cs:List Value} {x:α},rc S cs x->cs.length=sz
 one: ∀{S:SH} {cs:List Value} {x:α},rc S cs x-> ∀c∈cs,c.oneCell' =true
 sc:agg=false->sz=1

def Rp.val{α:Type}(r:Rp α)(cs:List Value):Value:=if r.agg then .agg cs.toArray else cs.headD undef

def H{α:Type}(r:Rp α)(x:α):Ty where
 p:=fun S v=> ∃cs,v=r.val cs/\r.rc S cs x
 mono:=fun h ⟨cs,e,k⟩=>⟨cs,e,r.mono h k⟩

def vR:Ty where
 p:=fun _ _=>True
 mono:=fun _ _=>trivial

def tV(u:Value):Ty where
 p:=fun _ v=>v=u
 mono:=fun _ h=>h

def rI(k:IntKind):Rp Int where
 sz:=1
 agg:=false
 rc:=fun _ cs x=>cs=[.int k x]
 mono:=fun _ h=>h
 len:=fun h=>by rw [h];rfl
 one:=fun h c hc=>by subst h;simp at hc;subst hc;rfl
 sc:=fun _=>rfl

def rB:Rp Bool where
 sz:=1
 agg:=false
 rc:=fun _ cs x=>cs=[.bool x]
 mono:=fun _ h=>h
 len:=fun h=>by rw [h];rfl
 one:=fun h c hc=>by subst h;simp at hc;subst hc;rfl
 sc:=fun _=>rfl

abbrev Jc:=List UInt8
def rS:Rp Jc where
 sz:=1
 agg:=false
 rc:=fun _ cs x=>cs=[.string ⟨x.toArray⟩]
 mono:=fun _ h=>h
 len:=fun h=>by rw [h];rfl
 one:=fun h c hc=>by subst h;simp at hc;subst hc;rfl
 sc:=fun _=>rfl

variable{cs:List Value}{v:Value}
def fq{k:IntKind}{n:Int}:(H (rI k) n).p S v↔v= .int k n:=by
 constructor
 ·rintro⟨cs,rfl,h⟩;have h' :cs=[.int k n]:=h;subst h';rfl
 ·rintro rfl;exact⟨[.int k n],rfl,rfl⟩
def iC:(H rB b).p S v↔v= .bool b:=by
 constructor
 ·rintro⟨cs,rfl,h⟩;have h' :cs=[.bool b]:=h;subst h';rfl
 ·rintro rfl;exact⟨[.bool b],rfl,rfl⟩
def CL{s:Jc}:(H rS s).p S v↔v= .string ⟨s.toArray⟩:=by
 constructor
 ·rintro⟨cs,rfl,h⟩;have h' :cs=[.string ⟨s.toArray⟩]:=h;subst h';rfl
 ·rintro rfl;exact⟨[.string ⟨s.toArray⟩],rfl,rfl⟩

def qS{α:Type}(r:Rp α)(S:SH):List Value->List α->Prop
 |cs,[]=>cs=[]
 |cs,x::xs=> ∃a b,cs=a++b/\r.rc S a x/\qS r S b xs
variable{a:Act}{α:Type}{xs:List α}
def qR{α:Type}{r:Rp α}{S S' :SH}(h:SH.le S S'): ∀{xs:List α} {cs:List Value},qS r S cs xs->qS r S' cs xs
 |[],_,k=>k
 |_::_,_,⟨a,b,e,Y,J⟩=>⟨a,b,e,r.mono h Y,qR h J⟩
variable{x:Operand}
def mw{α:Type}{r:Rp α}{S:SH}: ∀{xs:List α} {cs:List Value},qS r S cs xs->cs.length=xs.length*r.sz
 |[],_,k=>by rw [show _=_ from k];simp
 |x::xs,_,⟨a,b,e,Y,J⟩=>by rw [e,jO,r.len Y,mw J,jv,tY];omega
def zh{α:Type}{r:Rp α}{S:SH}: ∀{xs:List α} {cs:List Value},qS r S cs xs-> ∀c∈cs,c.oneCell' =true
 |[],_,k,c,hc=>by rw [show _=_ from k]at hc;cases hc
 |x::xs,_,⟨a,b,e,Y,J⟩,c,hc=>by
  rw [e]at hc
  rcases p9.1 hc with h|h
  ·exact r.one Y c h
  ·exact zh J c h
variable{ys:List α}
def ta{α:Type}{r:Rp α}{S:SH}: ∀{xs ys:List α} {cs ds:List Value},qS r S cs xs->qS r S ds ys->qS r S (cs++ds) (xs++ys)
 |[],_,_,_,k,h=>by rw [show _=_ from k];exact h
 |_::_,_,_,_,⟨a,b,e,Y,J⟩,h=>⟨a,_,by rw [e,jC],Y,ta J h⟩
def oS{α:Type}{r:Rp α}{S:SH}: ∀{xs ys:List α} {cs:List Value},qS r S cs (xs++ys)->
  qS r S (cs.take (xs.length*r.sz)) xs/\qS r S (cs.drop (xs.length*r.sz)) ys
 |[],_,_,k=>by simp [qS];exact k
 |x::xs,ys,cs,⟨a,b,e,Y,J⟩=>by
  have hl:=r.len Y
  have ih:=oS J
  have e1:(x::xs).length*r.sz=a.length+xs.length*r.sz:=by rw [hl,jv,tY];omega
  rw [e,e1,List.take_length_add_append,List.drop_length_add_append]
  exact⟨⟨a,_,rfl,Y,ih.1⟩,ih.2⟩
def FX{r:Rp α}{x:α}:qS r S cs [x]↔r.rc S cs x:=by
 constructor
 ·rintro⟨a,b,rfl,h,V⟩
  rw [show b=[]from V,rR];exact h
 ·intro h;exact⟨cs,[],by simp,h,rfl⟩
variable{i:Nat}
def s9{r:Rp α}(h:qS r S cs xs){x:α}(I:xs[i]? =some x):
  r.rc S ((cs.drop (i*r.sz)).take r.sz) x:=by
 have hi:i<xs.length:=(qr.1 I).1
 have e:xs=xs.take i++(x::xs.drop (i+1)):=by
  have:=qr.1 I
  rw [<-this.2,<-xB hi,sn]
 have hl:(xs.take i).length=i:=by simp;omega
 rw [e]at h
 have J:=(oS h).2
 rw [hl]at J
 obtain⟨a,b,e2,Z,_⟩:=J
 rw [e2,<-r.len Z,List.take_left]
 exact Z

def DW{α:Type}(r:Rp α)(S:SH)(a:Option Addr)(xs:List α):Prop:=
 xs=[]\/ ∃b off c E fr,a=some ⟨b,off,none⟩/\S b=some (.cells c E fr)/\qS r S ((c.toList.drop off).take (xs.length*r.sz)) xs
def gJ{α:Type}(r:Rp α):Rp (List α) where
 sz:=1
 agg:=false
 rc:=fun S cs xs=> ∃a cap,cs=[.slice a xs.length cap]/\xs.length<=cap/\cap<=maxLen/\DW r S a xs
 mono:=fun h ⟨a,cap,e,Y,J,Z⟩=>⟨a,cap,e,Y,J,Z.imp id fun⟨b,off,c,E,fr,e1,e2,e3⟩=>by
  obtain⟨o',h4,h5⟩:=h _ _ e2
  obtain⟨c',rfl,h6⟩:=wV h5 (mw e3)
  exact⟨b,off,c',E,fr,e1,h4,by rw [h6];exact qR h e3⟩⟩
 len:=fun⟨a,cap,e,_⟩=>by rw [e];rfl
 one:=fun⟨a,cap,e,_⟩ c hc=>by rw [e]at hc;simp at hc;subst hc;rfl
 sc:=fun _=>rfl
variable{cap:Nat}
def lI{r:Rp α}:(H (gJ r) xs).p S v↔ ∃a cap,v= .slice a xs.length cap/\xs.length<=cap/\cap<=maxLen/\DW r S a xs:=by
 constructor
 ·rintro⟨cs,rfl,a,cap,rfl,h⟩;exact⟨a,cap,rfl,h⟩
 ·rintro⟨a,cap,rfl,h⟩;exact⟨_,rfl,a,cap,rfl,h⟩
def G9{r:Rp α}:(H (gJ r) []).p S (.slice none 0 0):=lI.2 ⟨none,0,rfl,dr _,mJ _,.inl rfl⟩

def bC{α:Type}(r:Rp α)(x:α):Ty where
 p:=fun S v=> ∃b off c E fr,v= .pointer (some ⟨b,off,none⟩)/\S b=some (.cells c E fr)/\r.rc S ((c.toList.drop off).take r.sz) x
 mono:=fun h ⟨b,off,c,E,fr,e1,e2,e3⟩=>by
  obtain⟨o',h4,h5⟩:=h _ _ e2
  obtain⟨c',rfl,h6⟩:=wV h5 (r.len e3)
  exact⟨b,off,c',E,fr,e1,h4,by rw [h6];exact r.mono h e3⟩

def Qt:List (Nat×List Value):=[]
def Qg(w:World):Prop:=True
structure jA(w:World)(S:SH):Prop where
 at_: ∀b o,S b=some o-> ∃o',w.heap[b]? =some o' /\Eg o o'
 gl: ∀p∈Qt,∃c hg fr,S p.1=some (.cells c hg fr)/\c.toList.take p.2.length=p.2
 tb: ∀w' :World,(∀b o,S b=some o-> ∃o',w'.heap[b]? =some o' /\Eg o o')->Qg w'
instance{w:World}{S:SH}:CoeFun (jA w S) (fun _=> ∀b o,S b=some o-> ∃o',w.heap[b]? =some o' /\Eg o o'):=⟨jA.at_⟩
variable{w:World}
def jA.lt(h:jA w S){b:Nat}{o:Obj}(k:S b=some o):b<w.heap.size:=let⟨_,Y,_⟩:=h b o k;(vL.1 Y).1
def jA.part(h:jA w S){b:Nat}{c:Array Value}{E:TypeId}(k:S b=some (.cells c E fr)){n:Nat}(hl:((c.toList.drop off).take n).length=n):
  ∃c',w.heap[b]? =some (.cells c' E fr)/\(c'.toList.drop off).take n=(c.toList.drop off).take n:=by
 obtain⟨o',Y,J⟩:=h b _ k
 obtain⟨c',rfl,Z⟩:=wV J hl
 exact⟨c',Y,Z⟩
variable{w' :World}
def jA.same(h:jA w S)(k: ∀b o,S b=some o->w'.heap[b]? =w.heap[b]?):jA w' S:=⟨fun b o e=>by rw [k b o e];exact h b o e,h.gl,h.tb⟩

def oW:Nat->Prop:=fun _=>False
structure gU(B:Nat->Prop)(w:World)(S:SH)(w' :World)(S' :SH):Prop where
 os:w'.os=w.os
 tape:w'.tape=w.tape
 output:w'.output=w.output
 drawn:w.drawn<=w'.drawn
 size:w.heap.size<=w'.heap.size
 heap: ∀k,k<w.heap.size-> ¬B k->w'.heap[k]? =w.heap[k]?
 keep:SH.le S S'
 old: ∀k,k<w.heap.size-> ¬B k->S' k=S k
def gU.refl(B:Nat->Prop)(w:World)(S:SH):gU B w S w S:=⟨rfl,rfl,rfl,dr _,dr _,fun _ _ _=>rfl,SH.le_refl _,fun _ _ _=>rfl⟩
variable{w'' :World}
def gU.trans{B:Nat->Prop}(h:gU B w S w' S')(k:gU B w' S' w'' S''):gU B w S w'' S'' :=
 ⟨k.os.trans h.os,k.tape.trans h.tape,k.output.trans h.output,xy h.drawn k.drawn,xy h.size k.size,
  fun i hi V=>(k.heap i (ud hi h.size) V).trans (h.heap i hi V),SH.le_trans h.keep k.keep,
  fun i hi V=>(k.old i (ud hi h.size) V).trans (h.old i hi V)⟩
variable{C:Nat->Prop}
def gU.step{B:Nat->Prop}(h:gU B w S w' S')(k:gU C w' S' w'' S'')(hC: ∀b,C b->w.heap.size<=b\/B b):gU B w S w'' S'' :=
 ⟨k.os.trans h.os,k.tape.trans h.tape,k.output.trans h.output,xy h.drawn k.drawn,xy h.size k.size,
  fun i hi V=>(k.heap i (ud hi h.size) (fun hc=>(hC i hc).elim (fun h=>by omega) V)).trans (h.heap i hi V),SH.le_trans h.keep k.keep,
  fun i hi V=>(k.old i (ud hi h.size) (fun hc=>(hC i hc).elim (fun h=>by omega) V)).trans (h.old i hi V)⟩
def gU.more{B:Nat->Prop}(h:gU B w S w' S')(k: ∀b,B b->C b):gU C w S w' S' :=
 ⟨h.os,h.tape,h.output,h.drawn,h.size,fun i hi V=>h.heap i hi (fun h=>V (k i h)),h.keep,fun i hi V=>h.old i hi (fun h=>V (k i h))⟩
def gU.step0{B:Nat->Prop}(h:gU B w S w' S')(k:gU oW w' S' w'' S''):gU B w S w'' S'' :=h.step k fun _ V=>V.elim

structure OE where
 fp:Nat->Prop
 p:World->SH->Prop
 here: ∀{w S},p w S-> ∀k,fp k->k<w.heap.size
 kept: ∀{C w w' S S'},p w S->gU C w S w' S' ->(∀k,fp k-> ¬C k)->p w' S'
def OE.holds(e:OE)(base:Nat)(B:Nat->Prop)(w:World)(S:SH):Prop:=e.p w S/\ ∀k,e.fp k->base<=k\/B k
def OE.apart(e f:OE):Prop:= ∀b,e.fp b-> ¬f.fp b
def dg(base:Nat)(B:Nat->Prop)(w:World)(S:SH):List OE->Prop
 |[]=>True
 |e::O=>e.holds base B w S/\(∀f∈O,e.apart f)/\dg base B w S O
def Dw{e:OE}{base:Nat}{B:Nat->Prop}(h:e.holds base B w S)(k:gU C w S w' S')(hC: ∀b,e.fp b-> ¬C b):e.holds base B w' S' :=⟨e.kept h.1 k hC,h.2⟩
variable{O:List OE}{f:FuncId}
def dg.ext{base:Nat}{B:Nat->Prop}(k:gU C w S w' S'): ∀{O:List OE},dg base B w S O->(∀e∈O,∀b,e.fp b-> ¬C b)->dg base B w' S' O
 |[],_,_=>trivial
 |e::_,⟨Y,J,Z⟩,hC=>⟨Dw Y k (hC e (mp ..)),J,dg.ext k Z fun f X=>hC f (nu _ X)⟩
def dg.ext0{base:Nat}{B:Nat->Prop}(k:gU oW w S w' S')(h:dg base B w S O):dg base B w' S' O:=
 h.ext k fun _ _ _ _ V=>V
def dg.mem{base:Nat}{B:Nat->Prop}: ∀{O:List OE},dg base B w S O-> ∀e∈O,e.holds base B w S
 |_::_,⟨Y,_,_⟩,_,.head _=>Y
 |_::_,⟨_,_,Z⟩,_,.tail _ hm=>dg.mem Z _ hm

abbrev jZ:=List (Nat×Ty)
def bM:jZ->Nat->Option Ty
 |[],_=>none
 |(k,t)::G,j=>bif Nat.beq k j then some t else bM G j
structure Fr where
 n:Nat
 ds:List Deferred
structure cW(N:Fr)(S:SH)(a:Act)(G:jZ):Prop where
 size:a.tmps.size=N.n
 defers:a.defers=N.ds
 at_: ∀k t,bM G k=some t->t.p S (a.tmps.getD k undef)
variable{G:jZ}{j:Nat}{t:Ty}
def cW.mono{N:Fr}(h:cW N S a G)(k:SH.le S S'):cW N S' a G:=⟨h.size,h.defers,fun j t e=>t.mono k (h.at_ j t e)⟩
def cW.sub{N:Fr}{G' :jZ}(h:cW N S a G)(k: ∀j t,bM G' j=some t->bM G j=some t):cW N S a G' :=⟨h.size,h.defers,fun j t e=>h.at_ j t (k j t e)⟩
variable{u:OE}
def cW.put{N:Fr}(h:cW N S a G)(hd:Nat.blt d N.n=true)(hv:t.p S v):cW N S (a.put (some d) v) ((d,t)::G):=by
 have hd' :d<N.n:=by simpa [tM] using hd
 refine⟨by simp [Act.put,h.size],h.defers,fun j u e=>?_⟩
 unfold bM at e
 by_cases hj:d=j
 ·subst hj
  have e' :t=u:=by simpa using e
  rw [e']at hv
  simp [Act.put,DC,h.size,hd',hv]
 ·have V:Nat.beq d j=false:=by cases hh:Nat.beq d j with
   |false=>rfl
   |true=>exact absurd (nL hh) hj
  rw [V]at e
  have:=h.at_ j u e
  simpa [Act.put,DC,Array.getElem?_setIfInBounds,hj] using this
def FL:jZ->jZ->Prop
 |[],_=>True
 |(k,t)::G',G=>bM G k=some t/\FL G' G
def BU: ∀{G' G:jZ},FL G' G-> ∀j t,bM G' j=some t->bM G j=some t
 |(k,t)::G',G,⟨Y,J⟩,j,u,e=>by
  unfold bM at e
  by_cases V:Nat.beq k j=true
  ·rw [V]at e
   have:=nL V
   subst this
   simp only [cond_true]at e
   rw [<-e];exact Y
  ·rw [wC]at V
   rw [V]at e
   exact BU J j u e

def aF(N:Fr)(G:jZ)(x:Operand)(t:Ty):Prop:= ∀S a,cW N S a G->t.p S (a.eval x)
def D{N:Fr}(h:bM G k=some t):aF N G (.tmp k) t:=fun _ _ hF=>hF.at_ k t h
def hI{N:Fr}{k:IntKind}{n:Int}:aF N G (.const (.int k n)) (H (rI k) n):=fun _ _ _=>fq.2 rfl
def hB{N:Fr}:aF N G (.const (.bool b)) (H rB b):=fun _ _ _=>iC.2 rfl
def hS{N:Fr}{s:Array UInt8}:aF N G (.const (.string ⟨s⟩)) (H rS s.toList):=fun _ _ _=>CL.2 rfl
def BD{N:Fr}{r:Rp α}:aF N G (.const (.slice none 0 0)) (H (gJ r) []):=fun _ _ _=>G9
def hV{N:Fr}:aF N G (.const v) (tV v):=fun _ _ _=>rfl

section
variable{P:Program}
end

def fw(r:Option Nat):Fence:={fn:=fun _=>True,depth:=none,alive:=false,round:=r}
variable{args:α->List Ty}
def mf{r:Option Nat}{n:Nat}{P:Program}{args:Array Value}{R:Ending->World->Prop}:CallsIn (fw r) n P f args w R↔Calls P f args w R:=callsIn_wide
def EO{r:Option Nat}{n:Nat}:(fw r).depth.isSome=true->1<=n:=fun h=>by cases h
structure En where
 P:Program
 N:Fr
 B:Nat->Prop
 w0:World
 S0:SH
 r:Option Nat
def En.base(E:En):Nat:=E.w0.heap.size

def Oq(P:Program)(o:Oper)(a:Act)(ah:Act->World->Prop):Result Next->Prop
 | .ok (.value v) w' =>ah (a.put o.dst v) w'
 | .ok .skip w' =>ah (a.put o.dst undef) w'
 | .ok (.enter f args) w' =>Calls P f args w' fun e w'' => ∃v,e= .returned v/\ah (a.put o.dst v) w''
 | .ok (.round l f tmps assign body) w' =>RoundIn (fw none) 0 P l f tmps assign body w' fun e w'' => ∃v,e= .returned v/\ah (a.put o.dst v) w''
 |_=>False
def Ef(P:Program)(o:Oper)(a:Act)(w:World)(ah:Act->World->Prop):Prop:=(∀c,o.op≠ .defer c)/\Oq P o a ah ((execOp a.eval o).run P w)
variable{l:Option Nat}
def FT{r:Option Nat}{n:Nat}{P:Program}{l:Nat}{tmps:Array Value}{assign body:Code}{R:Ending->World->Prop}(h:RoundIn (fw none) 0 P l f tmps assign body w R):RoundIn (fw r) n P l f tmps assign body w R:=
 ⟨trivial,fun c cs _=>h.2 c cs (fun _ hd=>by cases hd)⟩
variable{ah K' :Act->World->Prop}
def JK{P:Program}(hK: ∀a w,ah a w->K' a w){r:Result Next}(h:Oq P o a ah r):Oq P o a K' r:=by
 cases r with
 |ok n w=>
  cases n<;>simp only [Oq]at h ⊢
  case value=>exact hK _ _ h
  case skip=>exact hK _ _ h
  case enter f args=>exact h.mono fun e w' ⟨v,he,hk⟩=>⟨v,he,hK _ _ hk⟩
  case round l f tmps assign body=>exact h.mono fun e w' ⟨v,he,hk⟩=>⟨v,he,hK _ _ hk⟩
 |halt x w=>simp only [Oq]at h
def my{P:Program}(hK: ∀a w,ah a w->K' a w)(h:Ef P o a w ah):Ef P o a w K' :=⟨h.1,JK hK h.2⟩
variable{Q:Exit->Act->World->Prop}{β:Type}{res:β->Ty}
def jD{P:Program}{r:Option Nat}(hK: ∀a w,ah a w->K' a w)(h:Ef P o a w ah):o.wpIn (fw r) 0 P a w K' Q:=by
 obtain⟨hd,h⟩:=h
 refine⟨fun _ _=>trivial,?_⟩
 rw [Oper.semAt_eq _ _ _ hd]
 generalize (execOp a.eval o).run P w=res at h
 cases res with
 |ok n w=>
  cases n<;>simp only [Oq]at h<;>simp only [Oper.uponIn]
  case value=>exact hK _ _ h
  case skip=>exact hK _ _ h
  case enter f args=>exact⟨EO,mf.2 (h.mono fun e w' ⟨v,he,hk⟩=>by subst he;exact hK _ _ hk)⟩
  case round l f tmps assign body=>exact⟨EO,(FT h).mono fun e w' ⟨v,he,hk⟩=>by subst he;exact hK _ _ hk⟩
 |halt x w=>simp only [Oq]at h

def bT(E:En)(O:List OE)(G:jZ)(o:Oper)(t:Ty):Prop:=
 ∀a w S,jA w S->dg E.base E.B w S O->cW E.N S a G->
  Ef E.P o a w (fun a' w' => ∃v S',a' =a.put o.dst v/\gU oW w S w' S' /\jA w' S' /\t.p S' v)
structure St(E:En)(O:List OE)(G:jZ)(a:Act)(w:World)(S:SH):Prop where
 ext:gU E.B E.w0 E.S0 w S
 sat:jA w S
 own:dg E.base E.B w S O
 facts:cW E.N S a G
def RG(E:En)(ops:Array Oper)(Q:Exit->Act->World->Prop)(l:List Oper)(O:List OE)(G:jZ):Prop:= ∀a w S,St E O G a w S->wpListIn (fw E.r) 0 E.P ops Q l a w
def CG(E:En)(Q:Exit->Act->World->Prop)(c:Code)(O:List OE)(G:jZ):Prop:= ∀a w S,St E O G a w S->c.wpIn (fw E.r) 0 E.P Q a w
def AT(E:En)(Q:Exit->Act->World->Prop)(e:Exit)(O:List OE)(G:jZ):Prop:= ∀a w S,St E O G a w S->Q e a w

variable{after:Array Edge}{fn:Func}{ops:Array Oper}{pos:String}{ts:List Ty}{y:Operand}
section
variable{E:En}{G' :jZ}{l:List Oper}
def St.step(h:St E O G a w S)(k:gU oW w S w' S')(hs:jA w' S')(hd:Nat.blt d E.N.n=true)(hv:t.p S' v):
  St E O ((d,t)::G) (a.put (some d) v) w' S' :=
 ⟨h.ext.step0 k,hs,h.own.ext0 k,(h.facts.mono k.keep).put hd hv⟩
def St.sub(h:St E O G a w S)(k:FL G' G):St E O G' a w S:=⟨h.ext,h.sat,h.own,h.facts.sub (BU k)⟩
def RG.of(T:o.guard=none)(h: ∀a w S,St E O G a w S->Ef E.P o a w (fun a' w' =>wpListIn (fw E.r) 0 E.P ops Q l a' w')):RG E ops Q (o::l) O G:=fun a w S st=>
 wpListIn_plain T fun _ hK=>jD hK (h a w S st)

def sQ{op:Op}{ty:TypeId}(h:bT E O G ⟨some d,op,ty,pos,after,none⟩ t)(hd:Nat.blt d E.N.n=true)(k:RG E ops Q l O ((d,t)::G)):
  RG E ops Q (⟨some d,op,ty,pos,after,none⟩::l) O G:= .of rfl fun a w S st=>
 my (fun a' w' ⟨_,_,ha,he,hs,hv⟩=>by subst ha;exact k _ _ _ (st.step he hs hd hv)) (h a w S st.sat st.own st.facts)
def bt(h:AT E Q .normal O G):RG E ops Q [] O G:=fun a w S st=>h a w S st
def aG{id:Nat}{l:List Oper}(h:RG E l.toArray Q l O G):CG E Q (.region id l.toArray false) O G:=fun a w S st=>wpIn_region_lit (h a w S st)
def aI{x y:Code}(h:CG E (Exit.then (y.wpIn (fw E.r) 0 E.P Q) Q) x O G):CG E Q (.seq x y) O G:=fun a w S st=>wpIn_seq (h a w S st)
def aB{y:Code}(h:CG E Q y O G):AT E (Exit.then (y.wpIn (fw E.r) 0 E.P Q) Q) .normal O G:=h
def cc(h:AT E Q .normal O G):CG E Q .skip O G:=fun a w S st=>wpIn_skip (h a w S st)
def iz{id:Nat}(h:AT E Q (.exit id) O G):CG E Q (.exit id) O G:=fun a w S st=>wpIn_exit (h a w S st)
def mo(h:AT E Q .ret O G):CG E Q .ret O G:=fun a w S st=>wpIn_ret (h a w S st)
def Lb(h:CG E Q c O G')(k:FL G' G):CG E Q c O G:=fun a w S st=>h a w S (st.sub k)
def c9{e:Exit}(h:AT E Q e O G')(k:FL G' G):AT E Q e O G:=fun a w S st=>h a w S (st.sub k)
def pw{c:Operand}{x y:Code}(V:aF E.N G c (H rB b))(I:b=true->CG E Q x O G)(hy:b=false->CG E Q y O G):CG E Q (.cond c x y) O G:=fun a w S st=>by
 have hv:a.eval c= .bool b:=iC.1 (V S a st.facts)
 refine wpIn_cond hv ?_
 cases b with
 |true=>exact I rfl a w S st
 |false=>exact hy rfl a w S st
def av{id:Nat}(h:CG E (Exit.inBlock id Q) c O G):CG E Q (.block id c) O G:=fun a w S st=>wpIn_block (h a w S st)
def wk(r:Option Nat)(P:Program)(c:Code)(Q:Exit->Act->World->Prop)(a:Act)(w:World):Prop:=
 ∀(b:Frame) (k:List Item) (cs:List Frame),b.roundOf=r-> ∃e a' w',Q e a' w' /\ArrivesIn (Machine.fenced P (fw r)) P (lone (b.atR a (.code c:: .inLoop c::k)) cs w) b k cs e a' w'
def Hs{r:Option Nat}{n:Nat}:(fw r).room n:=fun _ hd=>by cases hd
def CJ{r:Option Nat}{P:Program}{Q:Exit->Act->World->Prop}(h:wk r P c Q a w):(Code.loop c).wpIn (fw r) 0 P Q a w:=fun b k cs hro V hr=>
 let⟨e,a',w',hq,harr⟩:=h b k cs hro
 ⟨e,a',w',hq,.of_steps (.one (fenced_calm V hr rfl) stepR_loop) harr⟩
def BA{r:Option Nat}{P:Program}{Q:Exit->Act->World->Prop}(h:c.wpIn (fw r) 0 P (Exit.then (wk r P c Q) Q) a w):wk r P c Q a w:=by
 intro b k cs hro
 obtain⟨e,a₁,w₁,hq,harr⟩:=h b (.inLoop c::k) cs hro trivial Hs
 cases e with
 |normal=>
  obtain⟨e₂,a₂,w₂,hq₂,harr₂⟩:=hq b k cs hro
  exact⟨e₂,a₂,w₂,hq₂,.of_steps (StepsIn.trans harr (.one (fenced_calm (n:=0) (F:=fw r) trivial Hs rfl) stepR_inLoop)) harr₂⟩
 |exit id=>exact⟨_,a₁,w₁,hq,.pass (x:= .inLoop c) rfl (fun _ _=> .inl (by simp)) harr⟩
 |goto l=>exact⟨_,a₁,w₁,hq,.pass (x:= .inLoop c) rfl (fun _ _=> .inl (by simp)) harr⟩
 |ret=>exact⟨_,a₁,w₁,hq,.pass (x:= .inLoop c) rfl (fun _ _=> .inl (by simp)) harr⟩
 |panic ch=>exact⟨_,a₁,w₁,hq,.pass (x:= .inLoop c) rfl (fun _ _=> .inl (by simp)) harr⟩
 |outgrown=>exact⟨_,a₁,w₁,hq,.pass (x:= .inLoop c) rfl (fun _ _=> .inl (by simp)) harr⟩
def LG(E:En)(Q:Exit->Act->World->Prop)(c:Code)(O:List OE)(G:jZ):Prop:= ∀a w S,St E O G a w S->wk E.r E.P c Q a w
def cd(h:LG E Q c O G):CG E Q (.loop c) O G:=fun a w S st=>CJ (h a w S st)
def kw(h:CG E (Exit.then (wk E.r E.P c Q) Q) c O G):LG E Q c O G:=fun a w S st=>BA (h a w S st)
def aP(h:LG E Q c O G')(k:FL G' G):LG E Q c O G:=fun a w S st=>h a w S (st.sub k)
def bg(h:LG E Q c O G):AT E (Exit.then (wk E.r E.P c Q) Q) .normal O G:=h
def aM{id:Nat}(h:AT E Q (.exit id) O G):AT E (Exit.then ah Q) (.exit id) O G:=h
def an(h:AT E Q .ret O G):AT E (Exit.then ah Q) .ret O G:=h
def yo{id:Nat}(h:AT E Q .ret O G):AT E (Exit.inBlock id Q) .ret O G:=h
def bj{id:Nat}(h:AT E Q .normal O G):AT E (Exit.inBlock id Q) .normal O G:=h
def dW{id:Nat}(h:AT E Q .normal O G):AT E (Exit.inBlock id Q) (.exit id) O G:=fun a w S st=>by
 simp only [Exit.inBlock,gu];exact h a w S st
def bY{id id' :Nat}(hne:Nat.beq id' id=false)(h:AT E Q (.exit id') O G):AT E (Exit.inBlock id Q) (.exit id') O G:=fun a w S st=>by
 have:id' ≠id:=fun e=>by subst e;simp at hne
 simp only [Exit.inBlock,this,gE];exact h a w S st

def tX(S:SH):List Ty->List Value->Prop
 |[],[]=>True
 |t::ts,v::vs=>t.p S v/\tX S ts vs
 |_,_=>False
def tX.mono(h:SH.le S S'): ∀{ts:List Ty} {vs:List Value},tX S ts vs->tX S' ts vs
 |[],[],_=>trivial
 |t::_,_::_,⟨Y,J⟩=>⟨t.mono h Y,tX.mono h J⟩
def tX.length: ∀{ts:List Ty} {vs:List Value},tX S ts vs->vs.length=ts.length
 |[],[],_=>rfl
 |_::_,_::_,⟨_,J⟩=>by simp [tX.length J]
def cK(P:Program)(f:FuncId)(ts:List Ty)(t:Ty):Prop:=
 ∀w S vs,jA w S->tX S ts vs->Calls P f vs.toArray w fun e w' => ∃v S',e= .returned v/\gU oW w S w' S' /\jA w' S' /\t.p S' v
def Fb(E:En)(t:Ty):Ending->World->Prop:=fun e w' => ∃v S',e= .returned v/\gU E.B E.w0 E.S0 w' S' /\jA w' S' /\t.p S' v
def sO(k:Nat):List Ty->jZ
 |[]=>[]
 |t::ts=>(k,t)::sO (k+1) ts
def Av: ∀(ts:List Ty) (k j:Nat) (t:Ty),bM (sO k ts) j=some t-> ∃i,j=k+i/\ts[i]? =some t
 |[],_,_,_,h=>by simp [sO,bM]at h
 |u::ts,k,j,t,h=>by
  unfold sO bM at h
  by_cases V:Nat.beq k j=true
  ·rw [V]at h
   exact⟨0,by rw [nL V];rfl,by simpa using h⟩
  ·rw [wC]at V
   rw [V]at h
   obtain⟨i,Y,J⟩:=Av ts (k+1) j t h
   exact⟨i+1,by omega,by simpa using J⟩
def tX.at_: ∀{ts:List Ty} {vs:List Value} (_:tX S ts vs) (i:Nat) (t:Ty),ts[i]? =some t-> ∃v,vs[i]? =some v/\t.p S v
 |_::_,v::_,⟨Y,_⟩,0,t,h=>⟨v,rfl,by simp at h;rw [<-h];exact Y⟩
 |_::ts,_::vs,⟨_,J⟩,i+1,t,h=>by simpa using tX.at_ J i t (by simpa using h)
def o3{vs:List Value}(h:tX S ts vs)(n:Nat)(hn:ts.length<=n):
  cW ⟨n,[]⟩ S {tmps:=vs.toArray++Array.replicate (n-vs.toArray.size) undef,defers:=[]} (sO 0 ts):=by
 have hl:=h.length
 refine⟨by simp;omega,rfl,fun j t hj=>?_⟩
 obtain⟨i,e,hi⟩:=Av ts 0 j t hj
 have e' :j=i:=by omega
 subst e'
 obtain⟨v,hv,D⟩:=h.at_ j t hi
 have hlt:j<vs.length:=(qr.1 hv).1
 have:(vs.toArray++Array.replicate (n-vs.toArray.size) undef).getD j undef=v:=by
  rw [DC,Array.getElem?_append_left (by simpa using hlt)]
  simp [hv]
 rw [this];exact D
def Dt{P:Program}(X:P.funcs[f]? =some fn)(V:fn.body=some c)(hn:ts.length<=fn.ntmps)(h: ∀w0 S0,CG ⟨P,⟨fn.ntmps,[]⟩,oW,w0,S0,none⟩ (bodyPost P fn (Fb ⟨P,⟨fn.ntmps,[]⟩,oW,w0,S0,none⟩ t)) c [] (sO 0 ts)):cK P f ts t:=by
 intro w S vs hs hv
 exact mf.1 (callsIn_of_wp (F:=fw none) (n:=0) X V trivial (h w S _ w S ⟨gU.refl _ _ _,hs,trivial,o3 hv _ hn⟩))
def nc(P:Program)(fn:Func)(k:Nat)(h:fn.results= #[.tmp k])(tmps:Array Value)(w:World):(results fn tmps).run P w= .ok (tmps.getD k undef) w:=by
 simp [results,h]
def bB{P:Program}{N:Nat}{B:Nat->Prop}{w0:World}{S0:SH}(hr:fn.results= #[.tmp k])(hk:bM G k=some t):
  AT ⟨P,⟨N,[]⟩,B,w0,S0,none⟩ (bodyPost P fn (Fb ⟨P,⟨N,[]⟩,B,w0,S0,none⟩ t)) .ret O G:=fun _ _ S st=>
 ⟨st.facts.defers,_,nc P fn k hr _ _,_,S,rfl,st.ext,st.sat,st.facts.at_ k t hk⟩
def tT(ts:List Ty):Ty where
 p:=fun S v=> ∃vs,v= .tuple vs.toArray/\tX S ts vs
 mono:=fun h k=>by obtain⟨vs,e,k⟩:=k;exact⟨vs,e,tX.mono h k⟩
def y7(P:Program)(fn:Func)(j k:Nat)(h:fn.results= #[.tmp j,.tmp k])(tmps:Array Value)(w:World):(results fn tmps).run P w= .ok (.tuple #[tmps.getD j undef,tmps.getD k undef]) w:=by
 simp [results,h]
def fm{P:Program}{N:Nat}{B:Nat->Prop}{w0:World}{S0:SH}{u:Ty}(hr:fn.results= #[.tmp j,.tmp k])(hj:bM G j=some t)(hk:bM G k=some u):
  AT ⟨P,⟨N,[]⟩,B,w0,S0,none⟩ (bodyPost P fn (Fb ⟨P,⟨N,[]⟩,B,w0,S0,none⟩ (tT [t,u]))) .ret O G:=fun _ _ S st=>
 ⟨st.facts.defers,_,y7 P fn j k hr _ _,_,S,rfl,st.ext,st.sat,[_,_],rfl,st.facts.at_ j t hj,st.facts.at_ k u hk,trivial⟩
def xK(P:Program)(fn:Func)(h:fn.results= #[])(tmps:Array Value)(w:World):(results fn tmps).run P w= .ok (.tuple #[]) w:=by
 simp [results,h]
end

variable{dst:Option Tmp}{g:Option (Nat×Bool)}{xt yt:TypeId}
section
variable{E:En}{ty:TypeId}
def bT.of_run(h: ∀a w S,jA w S->dg E.base E.B w S O->cW E.N S a G->
  ∃v w' S',(execOp a.eval o).run E.P w= .ok (.value v) w' /\gU oW w S w' S' /\jA w' S' /\t.p S' v)(hd: ∀c,o.op≠ .defer c:=by intro c h;cases h):bT E O G o t:=fun a w S hs ho X=>by
 obtain⟨v,w',S',hr,he,hs',hv⟩:=h a w S hs ho X
 refine⟨hd,?_⟩
 rw [hr]
 exact⟨v,S',rfl,he,hs',hv⟩
def bT.of_pure(h: ∀a w S,jA w S->dg E.base E.B w S O->cW E.N S a G-> ∃v,(execOp a.eval o).run E.P w= .ok (.value v) w/\t.p S v)(hd: ∀c,o.op≠ .defer c:=by intro c h;cases h):bT E O G o t:=
 .of_run (fun a w S hs ho X=>let⟨v,hr,hv⟩:=h a w S hs ho X;⟨v,w,S,hr,gU.refl _ _ _,hs,hv⟩) hd

def ci(I:aF E.N G x t):bT E O G ⟨dst,.move x,ty,pos,after,g⟩ t:=
 .of_pure fun a _ S _ _ X=>⟨a.eval x,rfl,I S a X⟩
def bF(I:aF E.N G x t):bT E O G ⟨dst,.assign x,ty,pos,after,g⟩ t:=
 .of_pure fun a _ S _ _ X=>⟨a.eval x,rfl,I S a X⟩
def zi{c:Operand}(hc:aF E.N G c (H rB b))(I:b=true->aF E.N G x t)(hy:b=false->aF E.N G y t):bT E O G ⟨dst,.pick c x y,ty,pos,after,g⟩ t:=
 .of_pure fun a _ S _ _ X=>by
  have Y:a.eval c= .bool b:=iC.1 (hc S a X)
  refine⟨if b then a.eval x else a.eval y,by simp [execOp,Y,asBool],?_⟩
  cases b with
  |true=>exact I rfl S a X
  |false=>exact hy rfl S a X

section
variable{k:IntKind}{m n:Int}
def EZ{P:Program}{op:BinOp}{xt:TypeId}{x y:Operand}{k k' :IntKind}{m n:Int}:(eqGuard op xt x y (.int k m) (.int k' n)).run P w= .ok () w:=by
 unfold eqGuard
 cases op<;>rfl
def uz{op:BinOp}(I:aF E.N G x (H (rI k) m))(hy:aF E.N G y (H (rI k) n))(hv: ∀P w,(binOp op xt (.int k m) (.int k n)).run P w= .ok v w)(D: ∀S,t.p S v):
  bT E O G ⟨dst,.binOp op xt x y yt,ty,pos,after,g⟩ t:=
 .of_pure fun a w S _ _ X=>by
  have Y:a.eval x= .int k m:=fq.1 (I S a X)
  have J:a.eval y= .int k n:=fq.1 (hy S a X)
  refine⟨v,?_,D S⟩
  simp [execOp,Y,J,EZ,hv]
def lD(I:aF E.N G x (H (rI k) m))(hy:aF E.N G y (H (rI k) n)):bT E O G ⟨dst,.binOp .add xt x y yt,ty,pos,after,g⟩ (H (rI k) (k.wrap (m+n))):=
 uz I hy (fun _ _=>by simp [binOp,Op.intArith]) (fun _=>fq.2 rfl)
def gc(I:aF E.N G x (H (rI k) m))(hy:aF E.N G y (H (rI k) n)):bT E O G ⟨dst,.binOp .sub xt x y yt,ty,pos,after,g⟩ (H (rI k) (k.wrap (m-n))):=
 uz I hy (fun _ _=>by simp [binOp,Op.intArith]) (fun _=>fq.2 rfl)
def mL(I:aF E.N G x (H (rI k) m))(hy:aF E.N G y (H (rI k) n)):bT E O G ⟨dst,.binOp .lss xt x y yt,ty,pos,after,g⟩ (H rB (decide (m<n))):=
 uz I hy (fun _ _=>by simp [binOp,Op.intCmp]) (fun _=>iC.2 rfl)
def oV(I:aF E.N G x (H (rI k) m))(hy:aF E.N G y (H (rI k) n)):bT E O G ⟨dst,.binOp .leq xt x y yt,ty,pos,after,g⟩ (H rB (decide (m<=n))):=
 uz I hy (fun _ _=>by simp [binOp,Op.intCmp]) (fun _=>iC.2 rfl)
def uy(I:aF E.N G x (H (rI k) m))(hy:aF E.N G y (H (rI k) n)):bT E O G ⟨dst,.binOp .gtr xt x y yt,ty,pos,after,g⟩ (H rB (decide (n<m))):=
 uz I hy (fun _ _=>by simp [binOp,Op.intCmp]) (fun _=>iC.2 rfl)
def gX(I:aF E.N G x (H (rI k) m))(hy:aF E.N G y (H (rI k) n)):bT E O G ⟨dst,.binOp .geq xt x y yt,ty,pos,after,g⟩ (H rB (decide (n<=m))):=
 uz I hy (fun _ _=>by simp [binOp,Op.intCmp]) (fun _=>iC.2 rfl)
def gZ(I:aF E.N G x (H (rI k) m))(hy:aF E.N G y (H (rI k) n)):bT E O G ⟨dst,.binOp .eql xt x y yt,ty,pos,after,g⟩ (H rB (m==n)):=
 uz I hy (fun _ _=>by simp [binOp,Op.intCmp]) (fun _=>iC.2 rfl)
def jt(I:aF E.N G x (H (rI k) m))(hy:aF E.N G y (H (rI k) n)):bT E O G ⟨dst,.binOp .neq xt x y yt,ty,pos,after,g⟩ (H rB (m !=n)):=
 uz I hy (fun _ _=>by simp [binOp,Op.intCmp]) (fun _=>iC.2 rfl)
def Gb(I:aF E.N G x (H (rI k) m)):bT E O G ⟨dst,.unOp .neg xt x,ty,pos,after,g⟩ (H (rI k) (k.wrap (0-m))):=
 .of_pure fun a w S _ _ X=>by
  have Y:a.eval x= .int k m:=fq.1 (I S a X)
  exact⟨.int k (k.wrap (0-m)),by simp [execOp,Y,Op.unary,Op.intArith],fq.2 rfl⟩
def iY(I:aF E.N G x (H rB b)):bT E O G ⟨dst,.unOp .not xt x,ty,pos,after,g⟩ (H rB (!b)):=
 .of_pure fun a w S _ _ X=>by
  have Y:a.eval x= .bool b:=iC.1 (I S a X)
  exact⟨.bool (!b),by simp [execOp,Y,Op.unary],iC.2 rfl⟩
end

def xO{P:Program}{t:TypeId}(D:P.underlying t=some .bool)(d:Nat)(b c:Bool)(w:World):(Op.equalIn (d+1) t (.bool b) (.bool c)).run P w= .ok (b==c) w:=by
 simp [Op.equalIn,jB D]
def uU{P:Program}{t:TypeId}{x y:Value}(V: ∀d,(Op.equalIn (d+1) t x y).run P w= .ok b w):(Op.equal t x y).run P w= .ok b w:=V 9999
section
def LQ{c:Bool}(D:E.P.underlying xt=some .bool)(I:aF E.N G x (H rB b))(hy:aF E.N G y (H rB c)):bT E O G ⟨dst,.binOp .eql xt x y yt,ty,pos,after,g⟩ (H rB (b==c)):=
 .of_pure fun a w S _ _ X=>by
  have Y:a.eval x= .bool b:=iC.1 (I S a X)
  have J:a.eval y= .bool c:=iC.1 (hy S a X)
  exact⟨.bool (b==c),by simp [execOp,Y,J,eqGuard,binOp,uU (fun d=>xO D d b c w)],iC.2 rfl⟩
end
end

def J4:TypeDesc->Bool
 | .struct _| .array _ _=>true
 |_=>false
structure TI(P:Program)(hg:TypeId)(sz bytes:Nat)(agg:Bool)(z:List Value):Prop where
 info:(P.info? hg).map (fun i=>(i.zero.map (·.cells.toList),i.size,i.bytes))=some (some z,sz,bytes)
 ag:(P.underlying hg).map J4=some agg
variable{hg:TypeId}{bytes:Nat}{z:List Value}
section
variable{P:Program}{sz:Nat}{agg:Bool}
def TI.get(h:TI P hg sz bytes agg z): ∃i zv,P.info? hg=some i/\i.size=sz/\i.bytes=bytes/\i.zero=some zv/\zv.cells=z.toArray:=by
 have:=h.info
 cases hi:P.info? hg with
 |none=>rw [hi]at this;simp at this
 |some i=>
  rw [hi]at this
  simp only [yr,Option.some.injEq,Prod.mk.injEq,CB]at this
  obtain⟨⟨zv,Y,J⟩,Z,h4⟩:=this
  exact⟨i,zv,rfl,Z,h4,Y,by rw [<-J]⟩
def TI.sizeOf(h:TI P hg sz bytes agg z)(w:World):(Go.sizeOf hg).run P w= .ok sz w:=by
 obtain⟨i,zv,Y,J,_⟩:=h.get
 simp [Go.sizeOf,typeInfo,Y,J]
def TI.isAgg(h:TI P hg sz bytes agg z)(w:World):(Go.isAgg hg).run P w= .ok agg w:=by
 have:=h.ag
 cases hi:P.underlying hg with
 |none=>rw [hi]at this;simp at this
 |some d=>
  rw [hi]at this
  simp only [yr,Option.some.injEq]at this
  simp only [Go.isAgg,sW,jB hi,uc]
  rw [<-this]
  cases d<;>simp [J4]
def TI.zero(h:TI P hg sz bytes agg z)(w:World): ∃zv,(zeroValue hg).run P w= .ok zv w/\zv.cells=z.toArray:=by
 obtain⟨i,zv,Y,_,_,h4,h5⟩:=h.get
 exact⟨zv,by simp [zeroValue,typeInfo,Y,h4],h5⟩
end

def iI(b off i:Nat):(⟨b,off,none⟩:Addr).add i=⟨b,off+i,none⟩:=by
 unfold Addr.add
 split
 ·simp_all
 ·rfl
def xl{b:Nat}{c:Array Value}(h:w.heap[b]? =some (.cells c hg fr))(i:Nat):w.cell? ⟨b,i,none⟩=c[i]? :=by
 simp [World.cell?,h]
def xM{P:Program}{b n:Nat}{c:Array Value}(h:w.heap[b]? =some (.cells c hg fr))(hcs:(c.toList.drop off).take n=cs)(hl:cs.length=n):
  (loadCells ⟨b,off,none⟩ n).run P w= .ok cs.toArray w:=by
 rw [<-hl]
 refine run_loadCells_list w ⟨b,off,none⟩ cs fun j v hv=>?_
 rw [iI,xl h]
 have hj:j<cs.length:=(qr.1 hv).1
 rw [<-hcs,wE (by omega),ue]at hv
 simpa using hv
variable{U:TypeId}{rest:List Oper}
def jh{P:Program}{b:Nat}{c:Array Value}{sz:Nat}{agg:Bool}(ti:TI P U sz bytes agg z)(h:w.heap[b]? =some (.cells c hg fr)){r:Rp α}(hsz:r.sz=sz)(hag:r.agg=agg){x:α}(I:r.rc S ((c.toList.drop off).take r.sz) x):
  (loadVar U ⟨b,off,none⟩).run P w= .ok (r.val ((c.toList.drop off).take r.sz)) w:=by
 have hl:=r.len I
 subst hsz
 subst hag
 simp only [loadVar,sW,ti.isAgg,uc]
 cases ha:r.agg with
 |true=>simp [ti.sizeOf,xM h rfl hl,Rp.val,ha]
 |false=>
  have Y:=r.sc ha
  have hcell:w.cell? ⟨b,off,none⟩=some (((c.toList.drop off).take r.sz).headD undef):=by
   rw [xl h]
   rw [Y]at hl ⊢
   cases hd:c.toList.drop off with
   |nil=>rw [hd]at hl;simp at hl
   |cons v rest=>
    have:(c.toList.drop off)[0]? =some v:=by rw [hd];rfl
    rw [ue]at this
    simpa using this
  simp [hcell,Rp.val,ha]

variable{ats:Array TypeId}{q:Rp β}
section
variable{E:En}{ty:TypeId}
def ir{r:Rp α}{x:α}{p:Operand}{sz:Nat}{agg:Bool}(ti:TI E.P U sz bytes agg z)(hsz:r.sz=sz)(hag:r.agg=agg)(hp:aF E.N G p (bC r x)):
  bT E O G ⟨dst,.load U p,ty,pos,after,g⟩ (H r x):=
 .of_pure fun a w S hs _ X=>by
  obtain⟨b,off,c,hg,fr,Y,J,Z⟩:=hp S a X
  obtain⟨c',h4,h5⟩:=hs.part J (r.len Z)
  rw [<-h5]at Z
  refine⟨r.val ((c'.toList.drop off).take r.sz),?_,_,rfl,Z⟩
  simp [execOp,Y,Instr.loadAt,Instr.sureAddr,jh ti h4 hsz hag Z]

def Nf(s:Jc):(ByteArray.mk s.toArray).size=s.length:=by simp [ByteArray.size]
def ke{r:Rp α}{t:TypeId}(D:E.P.underlying t=some (.slice e))(I:aF E.N G x (H (gJ r) xs)):
  bT E O G ⟨dst,.call ⟨.builtin .len,#[x],#[t]⟩,ty,pos,after,g⟩ (H (rI .i64) (xs.length:Int)):=
 .of_pure fun a w S _ _ X=>by
  obtain⟨ad,cap,Y,_⟩:=lI.1 (I S a X)
  refine⟨.int .i64 xs.length,?_,fq.2 rfl⟩
  simp [execOp,resolve,invoke,builtin,Builtin.len_,jB D,Y,goInt]
def Hj{s:Jc}{t:TypeId}(D:E.P.underlying t=some .string)(I:aF E.N G x (H rS s)):
  bT E O G ⟨dst,.call ⟨.builtin .len,#[x],#[t]⟩,ty,pos,after,g⟩ (H (rI .i64) (s.length:Int)):=
 .of_pure fun a w S _ _ X=>by
  have Y:a.eval x= .string ⟨s.toArray⟩:=CL.1 (I S a X)
  refine⟨.int .i64 s.length,?_,fq.2 rfl⟩
  simp [execOp,resolve,invoke,builtin,Builtin.len_,jB D,Y,goInt,Nf]

def cU{α:Type}(xs:List α)(i:Int):Option α:=if 0<=i then xs[i.toNat]? else none
def cI(xs:List α)(i:Nat):cU xs (i:Int)=xs[i]? :=by simp [cU]
def Ia{r:Rp α}{a:Option Addr}(h:DW r S a xs){x:α}(I:xs[i]? =some x):
  ∃b off c hg fr,a=some ⟨b,off,none⟩/\S b=some (.cells c hg fr)/\r.rc S ((c.toList.drop (off+i*r.sz)).take r.sz) x:=by
 rcases h with rfl|⟨b,off,c,hg,fr,e1,e2,e3⟩
 ·simp at I
 ·refine⟨b,off,c,hg,fr,e1,e2,?_⟩
  have h:=s9 e3 I
  have hi:i<xs.length:=(qr.1 I).1
  rw [zm,vI,p8]at h
  have:min r.sz (xs.length*r.sz-i*r.sz)=r.sz:=by
   rw [<-Nat.sub_mul]
   have:1*r.sz<=(xs.length-i)*r.sz:=wD _ (by omega)
   omega
  rw [this]at h
  exact h
def bp{r:Rp α}{y:α}{ix:Operand}{t:TypeId}{k:IntKind}{i:Int}{sz:Nat}{agg:Bool}(D:E.P.underlying t=some (.slice e))(ti:TI E.P e sz bytes agg z)(hsz:r.sz=sz)(I:aF E.N G x (H (gJ r) xs))(hi:aF E.N G ix (H (rI k) i))(hy:cU xs i=some y):
  bT E O G ⟨dst,.indexAddr t x ix,ty,pos,after,g⟩ (bC r y):=
 .of_pure fun a w S _ _ X=>by
  obtain⟨ad,cap,Y,_,_,J⟩:=lI.1 (I S a X)
  have Z:a.eval ix= .int k i:=fq.1 (hi S a X)
  have h0:0<=i:=by unfold cU at hy;split at hy;assumption;cases hy
  have hy' :xs[i.toNat]? =some y:=by unfold cU at hy;rw [bE h0]at hy;exact hy
  have hlt:i.toNat<xs.length:=(qr.1 hy').1
  obtain⟨b,off,c,hg,fr,e1,e2,e3⟩:=Ia J hy'
  subst e1
  refine⟨.pointer (some ⟨b,off+i.toNat*r.sz,none⟩),?_,b,_,c,hg,fr,rfl,e2,e3⟩
  have hc:0<=i/\i<(xs.length:Int):=⟨h0,by omega⟩
  simp [execOp,Y,Z,Instr.indexAt,asIntOf,jB D,hc,ti.sizeOf,iI,hsz]

def mj{α β:Type}(r:Rp α)(off:Nat)(q:Rp β)(get:α->β):Prop:= ∀S cs x,r.rc S cs x->q.rc S ((cs.drop off).take q.sz) (get x)
def cP(P:Program)(hg:TypeId)(i:Nat):Option (Nat×Nat):=
 match P.underlying hg with
 |some (.struct fs)=>(fs[i]?).bind fun f=>(P.info? f.type).map fun q=>(f.offset,q.size)
 |_=>none
def xN{P:Program}{sz:Nat}(h:cP P hg i=some (off,sz)): ∃fs f,P.underlying hg=some (.struct fs)/\fs[i]? =some f/\f.offset=off/\ ∀w,(sizeOf f.type).run P w= .ok sz w:=by
 unfold cP at h
 split at h
 ·rename_i fs hu
  cases X:fs[i]? with
  |none=>rw [X]at h;simp at h
  |some f=>
   rw [X]at h
   cases hq:P.info? f.type with
   |none=>simp [hq]at h
   |some q=>
    simp [hq]at h
    exact⟨fs,f,hu,X,h.1,fun w=>by simp [sizeOf,typeInfo,hq,h.2]⟩
 ·cases h
def iZ{r:Rp α}{get:α->β}{x:α}{sz:Nat}{p:Operand}(X:cP E.P hg i=some (off,sz))(h0:Nat.beq sz 0=false)(hq:mj r off q get)(hoff:Nat.ble (off+q.sz) r.sz=true)(hp:aF E.N G p (bC r x)):bT E O G ⟨dst,.fieldAddr hg p i,ty,pos,after,g⟩ (bC q (get x)):=
 .of_pure fun a w S _ _ hF=>by
  obtain⟨b,o,c,U,fr,Y,J,Z⟩:=hp S a hF
  obtain⟨fs,f,e1,e2,e3,e4⟩:=xN X
  have h0' :sz≠0:=fun e=>by subst e;simp at h0
  have hoff' :off+q.sz<=r.sz:=pz hoff
  refine⟨.pointer (some ⟨b,o+off,none⟩),?_,b,_,c,U,fr,rfl,J,?_⟩
  ·simp [execOp,Y,Instr.fieldAt,jB e1,e2,Instr.sureAddr,fieldPlace,e4,h0',e3,iI]
  ·have:=hq S _ x Z
   rw [zm,vI,p8,vh (by omega)]at this
   exact this
def al(P:Program)(f:FuncId):Bool:=
 match P.funcs[f]? with
 |some fn=> !(fn.name== "runtime.NumGoroutine")&&fn.body.isSome
 |none=>false
def fE{P:Program}(h:al P f=true)(args:Array Value)(w:World):(callFunc f args).run P w= .ok (.enter f args) w:=by
 unfold al at h
 cases X:P.funcs[f]? with
 |none=>rw [X]at h;cases h
 |some fn=>
  rw [X]at h
  simp only [jX,yu]at h
  have Y:fn.name≠ "runtime.NumGoroutine" :=by simpa using h.1
  have J:fn.body≠none:=fun e=>by rw [e]at h;simp at h
  simp [callFunc,X,Y,J]
def il(N:Fr)(G:jZ):List Operand->List Ty->Prop
 |[],[]=>True
 |x::xs,t::ts=>aF N G x t/\il N G xs ts
 |_,_=>False
def il.tys{N:Fr}(hF:cW N S a G): ∀{xs:List Operand} {ts:List Ty},il N G xs ts->tX S ts (xs.map a.eval)
 |[],[],_=>trivial
 |_::_,_::_,⟨Y,J⟩=>⟨Y S a hF,il.tys hF J⟩
def cm{xs:List Operand}(hc:al E.P f=true)(hs:cK E.P f ts t)(I:il E.N G xs ts):
  bT E O G ⟨dst,.call ⟨.value (.func f),xs.toArray,ats⟩,ty,pos,after,g⟩ t:=fun a w S hS _ hF=>by
 have hr:(execOp a.eval ⟨dst,.call ⟨.value (.func f),xs.toArray,ats⟩,ty,pos,after,g⟩).run E.P w= .ok (.enter f (xs.map a.eval).toArray) w:=by
  simp [execOp,resolve,Act.eval,Deferred.ofValue,invoke,fE hc]
 refine⟨fun c h=>(by cases h),?_⟩
 rw [hr]
 exact(hs w S _ hS (I.tys hF)).mono fun e w' ⟨v,S',he,Y,J,Z⟩=>⟨v,he,v,S',rfl,Y,J,Z⟩
end

def lr{o:Obj}(h:k<w.heap.size):(w.alloc o).heap[k]? =w.heap[k]? :=RowKit.Below.heap_alloc w o k h
def SH.set(S:SH)(b:Nat)(o:Obj):SH:=fun k=>if k=b then some o else S k
def nK(S:SH)(b:Nat)(o:Obj):S.set b o b=some o:=bE rfl
def o7(S:SH){b:Nat}(o:Obj)(h:k≠b):S.set b o k=S k:=bn h
def yk{b:Nat}{o:Obj}(h: ∀q,S b=some q->Eg q o):SH.le S (S.set b o):=fun k q hq=>by
 by_cases hk:k=b
 ·subst hk;exact⟨o,nK _ _ _,h q hq⟩
 ·exact⟨q,by rw [o7 _ _ hk];exact hq,qU q⟩
def jA.set(h:jA w S){b:Nat}{o:Obj}(Y:w.heap[b]? =some o')(J:Eg o o')(Z: ∀q,S b=some q->Eg q o):jA w (S.set b o):=by
 refine⟨fun k q hq=>?_,fun p hp=>?_,fun w' hw' =>h.tb w' fun k q hq=>?_⟩
 ·by_cases hk:k=b
  ·subst hk
   rw [nK]at hq
   cases hq
   exact⟨o',Y,J⟩
  ·rw [o7 _ _ hk]at hq;exact h k q hq
 ·obtain⟨c,hg,fr,g1,g2⟩:=h.gl p hp
  by_cases hk:p.1=b
  ·subst hk
   obtain⟨d,hd⟩:=Z _ g1
   refine⟨_,hg,fr,by rw [nK,hd],?_⟩
   rw [List.toList_toArray,vM ?_]
   ·exact g2
   ·have:=congrArg List.length g2
    rw [zq]at this
    omega
  ·exact⟨c,hg,fr,by rw [o7 _ _ hk];exact g1,g2⟩
 ·by_cases hk:k=b
  ·subst hk
   obtain⟨o1,g1,g2⟩:=hw' k o (nK _ _ _)
   exact⟨o1,g1,B0 (Z q hq) g2⟩
  ·exact hw' k q (by rw [o7 _ _ hk];exact hq)
def iy(o:Obj)(hs:jA w S):gU oW w S (w.alloc o) S/\jA (w.alloc o) S/\S w.heap.size=none:=by
 refine⟨⟨rfl,rfl,rfl,dr _,by simp,fun k hk _=>lr hk,SH.le_refl _,fun _ _ _=>rfl⟩,hs.same fun b q V=>lr (hs.lt V),?_⟩
 cases h:S w.heap.size with
 |none=>rfl
 |some q=>have:=hs.lt h;omega
def rP(o:Obj)(hs:jA w S):gU oW w S (w.alloc o) (S.set w.heap.size o)/\jA (w.alloc o) (S.set w.heap.size o):=by
 obtain⟨Y,J,Z⟩:=iy o hs
 refine⟨⟨rfl,rfl,rfl,dr _,by simp,fun k hk _=>lr hk,yk fun q hq=>(by rw [Z]at hq;cases hq),fun k hk _=>o7 _ _ (by omega)⟩,J.set (wF w o) (qU o) fun q hq=>by rw [Z]at hq;cases hq⟩
def uP(hs:jA w S):gU oW w S w.drew S/\jA w.drew S:=⟨⟨rfl,rfl,rfl,Nat.le_succ _,dr _,fun _ _ _=>rfl,SH.le_refl _,fun _ _ _=>rfl⟩,hs.same fun _ _ _=>rfl⟩

def aL(l:Option Nat)(cap n:Nat):Value:=
 match l with
 |none=> .slice none 0 0
 |some b=> .slice (some ⟨b,0,none⟩) n cap
def vG(w:World)(hg:TypeId)(sz:Nat)(l:Option Nat)(cap n:Nat)(cells:List Value):Prop:=
 match l with
 |none=>n=0/\cells=[]
 |some b=> ∃cur,w.heap[b]? =some (.cells cur hg (0,0))/\n<=cap/\cap<=maxLen/\cur.size=cap*sz/\cur.toList.take (n*sz)=cells
def zd{α:Type}(m:Bool)(r:Rp α)(hg:TypeId)(l:Option Nat)(cap:Nat)(xs:List α)(w:World)(S:SH):Prop:=
 ∃cells,vG w hg r.sz l cap xs.length cells/\qS r S cells xs/\ ∀b,l=some b->S b=if m then some (.cells cells.toArray hg (0,0))else none
def vG.lt{sz b n:Nat}(h:vG w hg sz (some b) cap n cells):b<w.heap.size:=by
 obtain⟨cur,Y,_⟩:=h
 exact(vL.1 Y).1
def vG.ext{sz n:Nat}(h:vG w hg sz l cap n cells)(k: ∀b,l=some b->w'.heap[b]? =w.heap[b]?):vG w' hg sz l cap n cells:=by
 cases l with
 |none=>exact h
 |some b=>
  obtain⟨cur,Y,J⟩:=h
  exact⟨cur,by rw [k b rfl];exact Y,J⟩
def jS{α:Type}(m:Bool)(r:Rp α)(hg:TypeId)(l:Option Nat)(cap:Nat)(xs:List α):OE where
 fp:=fun k=>l=some k
 p:=zd m r hg l cap xs
 here:=by
  intro w S h k hk
  subst hk
  obtain⟨cells,Y,_⟩:=h
  exact Y.lt
 kept:=by
  intro C w w' S S' h k hC
  obtain⟨cells,Y,J,Z⟩:=h
  refine⟨cells,Y.ext fun b V=>?_,qR k.keep J,fun b V=>?_⟩
  ·subst V;exact k.heap b Y.lt (hC b rfl)
  ·subst V;rw [k.old b Y.lt (hC b rfl)];exact Z b rfl
abbrev fD{α:Type}(r:Rp α)(hg:TypeId)(l:Option Nat)(cap:Nat)(xs:List α):OE:=jS false r hg l cap xs
abbrev hX{α:Type}(r:Rp α)(hg:TypeId)(l:Option Nat)(cap:Nat)(xs:List α):OE:=jS true r hg l cap xs
def jT{α:Type}(xs ys:List α):Option (List α):=if xs.length+ys.length<=68719476736 then some (xs++ys)else none
variable{zs:List α}
def KX(h:jT xs ys=some zs):zs=xs++ys/\xs.length+ys.length<=68719476736:=by
 unfold jT at h
 split at h
 ·exact⟨by simpa using h.symm,by assumption⟩
 ·cases h
variable{news:List Value}
def vm{P:Program}{t tx ty:TypeId}{i:TypeInfo}(D:P.underlying t=some (.slice e))(hi:P.info? e=some i){g sLen sCap:Nat}{cur:Array Value}(T:w.heap[g]? =some (.cells cur e (0,0))){x:Value}{n:Nat}(hs:Src P i.size tx x n news w)(hroom:sLen+n<=sCap)(hfit:sLen*i.size+news.length<=cur.size):
  (Builtin.append_ #[t,tx] ty #[.slice (some ⟨g,0,none⟩) sLen sCap,x]).run P w=
   .ok (.slice (some ⟨g,0,none⟩) (sLen+n) sCap) (w.setRow g (cur.toList.take (sLen*i.size)++news++cur.toList.drop (sLen*i.size+news.length)).toArray):=by
 have hst:=run_storeCells_at P g (sLen*i.size) e news 0 cur w T (by simpa using hfit) hs.one
 simp only [tZ]at hst
 rcases hs.kind with⟨e',hk⟩|hk<;>simp [Builtin.append_,jB D,jB hk,sizeOf,typeInfo,hi,hs.len,hroom,hs.cells,Addr.add_lit,hst]
structure NT(l:Option Nat)(w w' :World):Prop where
 os:w'.os=w.os
 tape:w'.tape=w.tape
 output:w'.output=w.output
 drawn:w.drawn<=w'.drawn
 size:w.heap.size<=w'.heap.size
 heap: ∀k,k<w.heap.size->l≠some k->w'.heap[k]? =w.heap[k]?
variable{t' :TypeId}
def Ae{P:Program}{t ty:TypeId}{sz:Nat}{agg:Bool}{n m:Nat}{x:Value}(ti:TI P hg sz bytes agg z)(hz:Nat.beq z.length sz=true)(h0:Nat.blt 0 sz=true)(h128:Nat.ble bytes 2048=true)(D:P.underlying t=some (.slice hg))(h:vG w hg sz l cap n cells)(hs:Src P sz t' x m news w)(hlen:n+m<=68719476736):
  ∃l' cap' w',(Builtin.append_ #[t,t'] ty #[aL l cap n,x]).run P w= .ok (aL l' cap' (n+m)) w' /\vG w' hg sz l' cap' (n+m) (cells++news)/\NT l w w' /\(∀b,l' =some b->l=some b\/w.heap.size<=b)/\(∀b,l=some b->l' ≠some b->w'.heap[b]? =w.heap[b]?):=by
 obtain⟨i,zv,hi,Y,J,Z,h4⟩:=ti.get
 have h128' :=pz h128
 have h0' :0<sz:=by simpa [tM] using h0
 have hz2:z.length=sz:=nL hz
 subst Y
 have hnl:=hs.newsLen
 have hbytes:(n+m)*i.bytes<=140737488355328:=xy (Nat.mul_le_mul hlen (by omega:i.bytes<=2048)) (by omega)
 by_cases hm:m=0
 ·subst hm
  have hn0:news=[]:=vj (by simpa using hnl)
  subst hn0
  refine⟨l,cap,w,?_,by simpa using h,⟨rfl,rfl,rfl,dr _,dr _,fun _ _ _=>rfl⟩,fun b V=> .inl V,fun b _ _=>rfl⟩
  cases l with
  |none=>
   obtain⟨rfl,_⟩:=h
   exact run_append_nothing w t t' ty hg i D hi none 0 0 (dr _) _ hs
  |some b=>
   obtain⟨cur,_,hle,_⟩:=h
   exact run_append_nothing w t t' ty hg i D hi (some ⟨b,0,none⟩) n cap hle _ hs
 have OJ: ∀old,old<n+m->Builtin.nextslicecap (n+m) old*i.bytes<=281474976710656:=fun old ho=>growslice_fits ho hbytes
 -- a new row
 have fresh: ∀(base:Option Addr) (olds:List Value),aL l cap n= .slice base n cap->olds=cells->cap<n+m->(Builtin.firstCells i.size n (.slice base n cap)).run P w.drew= .ok olds.toArray w.drew->cells.length=n*i.size->
   ∃l' cap' w',(Builtin.append_ #[t,t'] ty #[aL l cap n,x]).run P w= .ok (aL l' cap' (n+m)) w' /\vG w' hg i.size l' cap' (n+m) (cells++news)/\NT l w w' /\(∀b,l' =some b->l=some b\/w.heap.size<=b)/\(∀b,l=some b->l' ≠some b->w'.heap[b]? =w.heap[b]?):=by
  intro base olds hv he T X hcl
  subst he
  have hr:=run_append_grow_src (P:=P) w t t' ty hg i zv D hi Z base n cap olds X x m news hs T (by omega) (OJ cap T)
  have hge:=grownCap_ge w (n+m) cap hg
  rw [<-hv]at hr
  refine⟨some w.heap.size,grownCap w (n+m) cap hg,_,hr,⟨_,wF w.drew _,hge,grownCap_le_maxLen _ _ _ _ (by simp only [maxLen];omega),?_,?_⟩,⟨rfl,rfl,rfl,Nat.le_succ _,by simp,fun k hk _=>?_⟩,fun b V=> .inr (zu (qa V)),fun b V _=>?_⟩
  ·have:(Builtin.zeroCells zv.cells (grownCap w (n+m) cap hg-(n+m))).size=(grownCap w (n+m) cap hg-(n+m))*i.size:=by
    rw [size_zeroCells,h4];simp [hz2]
   simp only [Array.size_append,BL,jO,hcl,hnl,this]
   rw [<-tY,<-tY]
   congr 1;omega
  ·have hl2:(olds++news).length=(n+m)*i.size:=by rw [jO,hcl,hnl,tY]
   rw [Array.toList_append,vM (by simp only [List.toList_toArray];omega)]
   simp only [List.toList_toArray]
   exact nM (by omega)
  ·exact lr (w:=w.drew) hk
  ·cases l with
   |none=>cases V
   |some b0=>
    have hb' :b0=b:=qa V
    subst hb'
    exact lr (w:=w.drew) (vG.lt h)
 cases l with
 |none=>
  obtain⟨rfl,rfl⟩:=h
  have:=run_append_grow_src (P:=P) w t t' ty hg i zv D hi Z none 0 0 [] (run_firstCells_none w.drew i.size 0 0 0) x m news hs (by omega) (by omega) (OJ 0 (by omega))
  have hge:=grownCap_ge w (0+m) 0 hg
  refine⟨some w.heap.size,grownCap w (0+m) 0 hg,_,this,⟨_,wF w.drew _,hge,grownCap_le_maxLen _ _ _ _ (by simp only [maxLen];omega),?_,?_⟩,⟨rfl,rfl,rfl,Nat.le_succ _,by simp,fun k hk _=>?_⟩,fun b V=> .inr (zu (qa V)),fun b V=>(by cases V)⟩
  ·have:(Builtin.zeroCells zv.cells (grownCap w (0+m) 0 hg-(0+m))).size=(grownCap w (0+m) 0 hg-(0+m))*i.size:=by
    rw [size_zeroCells,h4];simp [hz2]
   simp only [Array.size_append,BL,je,hnl,this]
   rw [<-tY]
   congr 1;omega
  ·rw [Array.toList_append,vM (by simp [hnl])]
   simp only [je,pS]
   exact nM (by omega)
  ·exact lr (w:=w.drew) hk
 |some b=>
  obtain⟨cur,V,hle,hmax,hcs,hct⟩:=h
  have hcl:cells.length=n*i.size:=by
   rw [<-hct,zq,yx,hcs]
   exact vh (wD _ hle)
  by_cases hroom:n+m<=cap
  ·have hfit:n*i.size+news.length<=cur.size:=by rw [hnl,hcs,<-tY];exact wD _ hroom
   have hr:=vm (t:=t) (tx:=t') (ty:=ty) D hi V hs hroom hfit
   refine⟨some b,cap,_,hr,⟨_,setRow_heap w b cur _ hg _ V,hroom,hmax,?_,?_⟩,⟨rfl,rfl,rfl,dr _,by simp [World.setRow],fun k hk hkb=>setRow_other w b k _ (fun e=>hkb (by rw [e]))⟩,fun b' hb' => .inl hb',fun b' hb' hne=>absurd hb' hne⟩
   ·simp only [BL,jO,zq,Bj,yx]
    omega
   ·rw [hct,tY,<-hnl,<-hcl,show cells.length+news.length=(cells++news).length from by simp]
    exact List.take_left
  ·refine fresh (some ⟨b,0,none⟩) cells rfl rfl (by omega) (run_firstCells_some w.drew i.size n ⟨b,0,none⟩ n cap cells hcl fun j v hv=>?_) hcl
   have hj:j<cells.length:=(qr.1 hv).1
   have hcell:w.cell? ⟨b,j,none⟩=cur[j]? :=xl V j
   rw [iI]
   show w.cell? ⟨b,0+j,none⟩=_
   rw [pS,hcell]
   rw [<-hct,wE (by omega)]at hv
   simpa using hv
def uj{P:Program}{r:Rp α}{e' :TypeId}(D:P.underlying t' =some (.slice e'))(hs:jA w S)(hv:(H (gJ r) ys).p S v): ∃news,Src P r.sz t' v ys.length news w/\qS r S news ys:=by
 obtain⟨ad,c2,rfl,hcap,hmax,hsl⟩:=lI.1 hv
 rcases hsl with rfl|⟨b,off,c,U,fr,e1,e2,e3⟩
 ·refine⟨[],?_,rfl⟩
  cases ad with
  |none=>exact .ofNil w D c2
  |some a=>exact .ofSlice w D a 0 c2 [] (by simp) (fun j u hu=>by simp at hu) (fun u hu=>by cases hu)
 ·subst e1
  obtain⟨c',h4,h5⟩:=hs.part e2 (mw e3)
  refine⟨_,.ofSlice w D ⟨b,off,none⟩ ys.length c2 _ (mw e3) (fun j u hu=>?_) (zh e3),e3⟩
  rw [iI,xl h4]
  rw [<-h5]at hu
  have hj:j<ys.length*r.sz:=by
   have:=(qr.1 hu).1
   simp at this;omega
  rw [wE hj,ue]at hu
  simpa using hu
variable{mm:Bool}
def ut{P:Program}{r:Rp α}{t ty:TypeId}{sz:Nat}{agg:Bool}{base:Nat}{B:Nat->Prop}(ti:TI P hg sz bytes agg z)(hsz:r.sz=sz)(hz:Nat.beq z.length sz=true)(h0:Nat.blt 0 sz=true)(h128:Nat.ble bytes 2048=true)(D:P.underlying t=some (.slice hg))(hs:jA w S)(h:(jS mm r hg l cap xs).holds base B w S)(V:base<=w.heap.size)(hsrc:Src P r.sz t' v ys.length news w)(hrc:qS r S news ys)(hz' :jT xs ys=some zs):
  ∃l' cap' w' S',(Builtin.append_ #[t,t'] ty #[aL l cap xs.length,v]).run P w= .ok (aL l' cap' zs.length) w' /\gU (fun k=>l=some k) w S w' S' /\jA w' S' /\(jS mm r hg l' cap' zs).holds base B w' S' /\(∀b,l' =some b->l=some b\/w.heap.size<=b):=by
 subst hsz
 obtain⟨rfl,hlen⟩:=KX hz'
 obtain⟨⟨cells,Y,J,Z⟩,hbase⟩:=h
 obtain⟨l',cap',w',hr,hraw,T,hnew,hold⟩:=Ae (ty:=ty) ti hz h0 h128 D Y hsrc hlen
 have hrc' :qS r S (cells++news) (xs++ys):=ta J hrc
 -- what stood settled stands
 have hsat0: ∀k o,S k=some o-> ∃o',w'.heap[k]? =some o' /\Eg o o' :=fun k o hk=>by
  have hlt:=hs.lt hk
  by_cases hkl:l=some k
  ·obtain⟨o',e1,e2⟩:=hs k o hk
   by_cases hkl' :l' =some k
   ·subst hkl'
    subst hkl
    have h3' :=Z k rfl
    cases mm with
    |false=>rw [h3']at hk;cases hk
    |true=>
     rw [h3']at hk
     cases hk
     obtain⟨cur',g1,g2,g3,g4,g5⟩:=hraw
     refine⟨_,g1,?_⟩;refine⟨news++cur'.toList.drop ((xs.length+ys.length)*r.sz),?_⟩
     congr 1
     apply Array.ext'
     rw [<-jC,<-g5,sn]
   ·rw [hold k hkl hkl'];exact hs k o hk
  ·rw [T.heap k hlt hkl];exact hs k o hk
 have hsat:jA w' S:=⟨hsat0,hs.gl,hs.tb⟩
 have hSn: ∀b,l' =some b->l≠some b->S b=none:=fun b hb' hne=>by
  cases hq:S b with
  |none=>rfl
  |some q=>
   have:=hs.lt hq
   rcases hnew b hb' with h|h
   ·exact absurd h hne
   ·omega
 have hbase' : ∀k,l' =some k->base<=k\/B k:=fun k hk=>by
  rcases hnew k hk with h|h
  ·exact hbase k h
  ·exact .inl (by omega)
 have hz2:(xs++ys).length=xs.length+ys.length:=jO
 cases mm with
 |false=>
  refine⟨l',cap',w',S,by rw [hz2];exact hr,⟨T.os,T.tape,T.output,T.drawn,T.size,fun k hk hkb=>T.heap k hk hkb,SH.le_refl _,fun _ _ _=>rfl⟩,hsat,⟨⟨cells++news,by rw [hz2];exact hraw,hrc',fun b hb' =>?_⟩,hbase'⟩,hnew⟩
  by_cases hlb:l=some b
  ·exact Z b hlb
  ·exact hSn b hb' hlb
 |true=>
  cases l' with
  |none=>
   refine⟨none,cap',w',S,by rw [hz2];exact hr,⟨T.os,T.tape,T.output,T.drawn,T.size,fun k hk hkb=>T.heap k hk hkb,SH.le_refl _,fun _ _ _=>rfl⟩,hsat,⟨⟨cells++news,by rw [hz2];exact hraw,hrc',fun b hb' =>(by cases hb')⟩,hbase'⟩,hnew⟩
  |some g=>
   have hq3: ∀q,S g=some q->Eg q (.cells (cells++news).toArray hg (0,0)):=fun q hq=>by
    by_cases hlb:l=some g
    ·have h4:S g=some (.cells cells.toArray hg (0,0)):=Z g hlb
     rw [h4]at hq
     cases hq
     exact⟨news,by simp⟩
    ·rw [hSn g rfl hlb]at hq;cases hq
   have hle:SH.le S (S.set g (.cells (cells++news).toArray hg (0,0))):=yk hq3
   obtain⟨cur',g1,g2,g3,g4,g5⟩:=hraw
   refine⟨some g,cap',w',S.set g (.cells (cells++news).toArray hg (0,0)),by rw [hz2];exact hr,⟨T.os,T.tape,T.output,T.drawn,T.size,fun k hk hkb=>T.heap k hk hkb,hle,fun k hk hkb=>o7 _ _ ?_⟩,hsat.set g1 ?_ hq3,⟨⟨cells++news,by rw [hz2];exact⟨cur',g1,g2,g3,g4,g5⟩,qR hle hrc',fun b hb' =>?_⟩,hbase'⟩,hnew⟩
   ·rintro rfl
    rcases hnew k rfl with h|h
    ·exact hkb h
    ·omega
   ·refine⟨cur'.toList.drop ((xs.length+ys.length)*r.sz),?_⟩
    congr 1
    apply Array.ext'
    rw [<-g5,sn]
   ·have hb2:g=b:=qa hb'
    subst hb2
    exact nK _ _ _

def GP{e f:OE}(h:e.apart f):f.apart e:=fun b V he=>h b he V
def dg.swap{base:Nat}{B:Nat->Prop}{e f:OE}(h:dg base B w S (e::f::O)):dg base B w S (f::e::O):=by
 obtain⟨Y,J,Z,h4,h5⟩:=h
 refine⟨Z,?_,Y,?_,h5⟩
 ·intro g T
  rcases gB.1 T with rfl|T
  ·exact GP (J _ (mp ..))
  ·exact h4 g T
 ·intro g T
  exact J g (nu _ T)
def sR{base:Nat}{B:Nat->Prop}{e:OE}{O' :List OE}(h:dg base B w S (e::O))(k:dg base B w S O->dg base B w S O')(hm: ∀f∈O',f∈O):dg base B w S (e::O'):=
 ⟨h.1,fun f X=>h.2.1 f (hm f X),k h.2.2⟩
def re{base:Nat}{B:Nat->Prop}{a b c:OE}(h:dg base B w S (a::b::c::O)):dg base B w S (c::a::b::O):=
 (sR h dg.swap (fun f X=>by simp only [gB]at X ⊢;rcases X with h|h|h<;>simp [h])).swap
def rd{base:Nat}{B:Nat->Prop}{a b c d:OE}(h:dg base B w S (a::b::c::d::O)):dg base B w S (d::a::b::c::O):=
 (sR h re (fun f X=>by simp only [gB]at X ⊢;rcases X with h|h|h|h<;>simp [h])).swap
def rb{base:Nat}{B:Nat->Prop}{a b c d e:OE}(h:dg base B w S (a::b::c::d::e::O)):dg base B w S (e::a::b::c::d::O):=
 (sR h rd (fun f X=>by simp only [gB]at X ⊢;rcases X with h|h|h|h|h<;>simp [h])).swap

section
variable{E:En}
def St.own_map{O' :List OE}(h:St E O G a w S)(k:dg E.base E.B w S O->dg E.base E.B w S O'):St E O' G a w S:=⟨h.ext,h.sat,k h.own,h.facts⟩
def St.base_le(h:St E O G a w S):E.base<=w.heap.size:=h.ext.size
def St.drop{e:OE}(h:St E (e::O) G a w S):St E O G a w S:=h.own_map fun h=>h.2.2
def St.fresh(mm:Bool)(r:Rp α)(hg:TypeId)(h:St E O G a w S):St E (jS mm r hg none 0 []::O) G a w S:=
 h.own_map fun h=>by refine⟨⟨⟨[],⟨rfl,rfl⟩,rfl,fun b V=>(by cases V)⟩,fun k hk=>?_⟩,fun f _ b V=>?_,h⟩<;>(first|cases hk|cases V)
def s5{e:OE}{b:Nat}{o:Obj}(h:St E (e::O) G a w S)(V:e.fp b)(ho:w.heap[b]? =some o')(hoo:Eg o o')(hn:S b=none):St E O G a w (S.set b o)/\SH.le S (S.set b o)/\gU (fun k=>k=b) w S w (S.set b o)/\jA w (S.set b o):=by
 have hbase:=h.own.1.2 b V
 have hle:SH.le S (S.set b o):=yk fun q hq=>(by rw [hn]at hq;cases hq)
 have hsat:jA w (S.set b o):=h.sat.set ho hoo fun q hq=>by rw [hn]at hq;cases hq
 have hext:gU (fun k=>k=b) w S w (S.set b o):=⟨rfl,rfl,rfl,dr _,dr _,fun _ _ _=>rfl,hle,fun k _ hk=>o7 _ _ hk⟩
 refine⟨⟨h.ext.step hext fun c hc=>by subst hc;exact hbase,hsat,h.own.2.2.ext hext fun f X c hc hm=>?_,h.facts.mono hle⟩,hle,hext,hsat⟩
 subst hm
 exact h.own.2.1 f X c V hc
def tO{α:Type}(r:Rp α)(l:Option Nat)(cap:Nat)(xs:List α):Ty where
 p:=fun S v=>v=aL l cap xs.length/\(H (gJ r) xs).p S v
 mono:=fun h ⟨Y,J⟩=>⟨Y,Ty.mono _ h J⟩
def wH{N:Fr}{G:jZ}{r:Rp α}(h:aF N G x (tO r l cap xs)):aF N G x (tV (aL l cap xs.length)):=fun S a X=>(h S a X).1
def mK{N:Fr}{G:jZ}{r:Rp α}(h:aF N G x (tO r l cap xs)):aF N G x (H (gJ r) xs):=fun S a X=>(h S a X).2
def pC{r:Rp α}{w:World}{S:SH}(h:zd true r hg l cap xs w S):(H (gJ r) xs).p S (aL l cap xs.length):=by
 obtain⟨cells,Y,J,Z⟩:=h
 cases l with
 |none=>
  have I:xs=[]:=vj Y.1
  subst I
  exact G9
 |some b=>
  obtain⟨cur,g1,g2,g3,g4,g5⟩:=Y
  refine lI.2 ⟨_,cap,rfl,g2,g3,.inr ⟨b,0,cells.toArray,hg,(0,0),rfl,Z b rfl,?_⟩⟩
  have:=mw J
  rw [t6,nM (by simp [this])]
  exact J
def St.freeze{r:Rp α}(h:St E (fD r hg l cap xs::O) G a w S):
  ∃S',St E (hX r hg l cap xs::O) G a w S' :=by
 obtain⟨⟨cells,Y,J,Z⟩,hbase⟩:=h.own.1
 cases l with
 |none=>exact⟨S,h.ext,h.sat,⟨⟨⟨cells,Y,J,fun b V=>(by cases V)⟩,hbase⟩,h.own.2⟩,h.facts⟩
 |some b=>
  obtain⟨cur,g1,g2,g3,g4,g5⟩:=Y
  have hoo:Eg (.cells cells.toArray hg (0,0)) (.cells cur hg (0,0)):=by
   refine⟨cur.toList.drop (xs.length*r.sz),?_⟩
   congr 1
   apply Array.ext'
   rw [<-g5,sn]
  obtain⟨h8,hle,_,_⟩:=s5 h rfl g1 hoo (Z b rfl)
  refine⟨_,h8.ext,h8.sat,⟨⟨⟨cells,⟨cur,g1,g2,g3,g4,g5⟩,qR hle J,fun b' hb' =>?_⟩,hbase⟩,h.own.2.1,h8.own⟩,h8.facts⟩
  have hb2:b=b' :=qa hb'
  subst hb2
  exact nK _ _ _
def St.settle{r:Rp α}(h:St E (jS mm r hg l cap xs::O) G a w S):
  ∃S',St E O G a w S' /\(H (gJ r) xs).p S' (aL l cap xs.length):=by
 cases mm with
 |true=>exact⟨S,h.drop,pC h.own.1.1⟩
 |false=>
  obtain⟨S',Y⟩:=h.freeze
  exact⟨S',Y.drop,pC Y.own.1.1⟩
end

section
variable{E:En}{e:Exit}
def Gs{N:Fr}(h:cW N S a G)(hk:t.p S (a.tmps.getD k undef)):cW N S a ((k,t)::G):=
 ⟨h.size,h.defers,fun j u hj=>by
  unfold bM at hj
  by_cases V:Nat.beq k j=true
  ·rw [V]at hj
   have:=nL V
   subst this
   rw [<-show t=u from by simpa using hj];exact hk
  ·rw [wC]at V
   rw [V]at hj
   exact h.at_ j u hj⟩
def St.cons(h:St E O G a w S)(hk:t.p S (a.tmps.getD k undef)):St E O ((k,t)::G) a w S:=⟨h.ext,h.sat,h.own,Gs h.facts hk⟩
def St.tipAt{r:Rp α}{n:Nat}(h:St E (hX r hg l cap xs::O) G a w S)(hk:bM G k=some (tV (aL l cap n)))(hn:n=xs.length):
  St E (hX r hg l cap xs::O) ((k,tO r l cap xs)::G) a w S:=by
 subst hn
 have hv:a.tmps.getD k undef=aL l cap xs.length:=h.facts.at_ k _ hk
 exact h.cons ⟨hv,by rw [hv];exact pC h.own.1.1⟩
def bL(mm:Bool)(r:Rp α)(hg:TypeId)(h:RG E ops Q rest (jS mm r hg none 0 []::O) G):RG E ops Q rest O G:=fun a w S st=>h a w S (st.fresh mm r hg)
def Lc(mm:Bool)(r:Rp α)(hg:TypeId)(h:CG E Q c (jS mm r hg none 0 []::O) G):CG E Q c O G:=fun a w S st=>h a w S (st.fresh mm r hg)
def qq{f:OE}(h:RG E ops Q rest O G):RG E ops Q rest (f::O) G:=fun a w S st=>h a w S st.drop
def CG.drop{f:OE}(h:CG E Q c O G):CG E Q c (f::O) G:=fun a w S st=>h a w S st.drop
def aN{f:OE}(h:AT E Q e O G):AT E Q e (f::O) G:=fun a w S st=>h a w S st.drop
def aT{x y:OE}(h:RG E ops Q rest (y::x::O) G):RG E ops Q rest (x::y::O) G:=fun a w S st=>h a w S (st.own_map dg.swap)
def bq{x y:OE}(h:AT E Q e (y::x::O) G):AT E Q e (x::y::O) G:=fun a w S st=>h a w S (st.own_map dg.swap)
def dy{x y z:OE}(h:RG E ops Q rest (z::x::y::O) G):RG E ops Q rest (x::y::z::O) G:=fun a w S st=>h a w S (st.own_map re)
def aJ{x y z:OE}(h:AT E Q e (z::x::y::O) G):AT E Q e (x::y::z::O) G:=fun a w S st=>h a w S (st.own_map re)
def ek{x y z:OE}(h:RG E ops Q rest (u::x::y::z::O) G):RG E ops Q rest (x::y::z::u::O) G:=fun a w S st=>h a w S (st.own_map rd)
def cy{x y z:OE}(h:AT E Q e (u::x::y::z::O) G):AT E Q e (x::y::z::u::O) G:=fun a w S st=>h a w S (st.own_map rd)
def mG{x y z v:OE}(h:RG E ops Q rest (v::x::y::z::u::O) G):RG E ops Q rest (x::y::z::u::v::O) G:=fun a w S st=>h a w S (st.own_map rb)
def cH{x y z v:OE}(h:AT E Q e (v::x::y::z::u::O) G):AT E Q e (x::y::z::u::v::O) G:=fun a w S st=>h a w S (st.own_map rb)
def pu{f:OE}(h:LG E Q c O G):LG E Q c (f::O) G:=fun a w S st=>h a w S st.drop
def dn{x y:OE}(h:LG E Q c (y::x::O) G):LG E Q c (x::y::O) G:=fun a w S st=>h a w S (st.own_map dg.swap)
def fi{x y z:OE}(h:LG E Q c (z::x::y::O) G):LG E Q c (x::y::z::O) G:=fun a w S st=>h a w S (st.own_map re)
def kC{x y z:OE}(h:LG E Q c (u::x::y::z::O) G):LG E Q c (x::y::z::u::O) G:=fun a w S st=>h a w S (st.own_map rd)
def o8{x y z v:OE}(h:LG E Q c (v::x::y::z::u::O) G):LG E Q c (x::y::z::u::v::O) G:=fun a w S st=>h a w S (st.own_map rb)
def ik{r:Rp α}(h:RG E ops Q rest (hX r hg l cap xs::O) G):RG E ops Q rest (fD r hg l cap xs::O) G:=fun a w _ st=>let⟨S',st'⟩:=st.freeze;h a w S' st'
def m7{r:Rp α}{n:Nat}(k:Nat)(hk:bM G k=some (tV (aL l cap n)))(h:RG E ops Q rest (hX r hg l cap xs::O) ((k,tO r l cap xs)::G))(hn:n=xs.length:=by rfl):RG E ops Q rest (hX r hg l cap xs::O) G:=fun a w S st=>h a w S (st.tipAt hk hn)
def La{r:Rp α}{n:Nat}(k:Nat)(hk:bM G k=some (tV (aL l cap n)))(h:CG E Q c (hX r hg l cap xs::O) ((k,tO r l cap xs)::G))(hn:n=xs.length:=by rfl):CG E Q c (hX r hg l cap xs::O) G:=fun a w S st=>h a w S (st.tipAt hk hn)
def o9{r:Rp α}(h:AT E Q e (hX r hg l cap xs::O) G):AT E Q e (fD r hg l cap xs::O) G:=fun a w _ st=>let⟨S',st'⟩:=st.freeze;h a w S' st'
def fN{r:Rp α}{n:Nat}(k:Nat)(hk:bM G k=some (tV (aL l cap n)))(h:AT E Q e (hX r hg l cap xs::O) ((k,tO r l cap xs)::G))(hn:n=xs.length:=by rfl):AT E Q e (hX r hg l cap xs::O) G:=fun a w S st=>h a w S (st.tipAt hk hn)
def IX{r:Rp α}(h:LG E Q c (hX r hg l cap xs::O) G):LG E Q c (fD r hg l cap xs::O) G:=fun a w _ st=>let⟨S',st'⟩:=st.freeze;h a w S' st'
def K7{r:Rp α}{n:Nat}(k:Nat)(hk:bM G k=some (tV (aL l cap n)))(h:LG E Q c (hX r hg l cap xs::O) ((k,tO r l cap xs)::G))(hn:n=xs.length:=by rfl):LG E Q c (hX r hg l cap xs::O) G:=fun a w S st=>h a w S (st.tipAt hk hn)
def bA{r:Rp α}(hk:bM G k=some (H (gJ r) xs))(h:xs.length<=maxLen->CG E Q c O G):CG E Q c O G:=fun a w S st=>by
 obtain⟨_,_,_,Y,J,_⟩:=lI.1 (st.facts.at_ k _ hk)
 exact h (xy Y J) a w S st

section
variable{ty:TypeId}
def St.append{r:Rp α}{t ty:TypeId}{sz:Nat}{agg:Bool}(ti:TI E.P hg sz bytes agg z)(hsz:r.sz=sz)(hz:Nat.beq z.length sz=true)(h0:Nat.blt 0 sz=true)(h128:Nat.ble bytes 2048=true)(D:E.P.underlying t=some (.slice hg))(st:St E (jS mm r hg l cap xs::O) G a w S)(hsrc:Src E.P r.sz t' v ys.length news w)(hrc:qS r S news ys)(happ:jT xs ys=some zs):
  ∃l' cap' w' S',(Builtin.append_ #[t,t'] ty #[aL l cap xs.length,v]).run E.P w= .ok (aL l' cap' zs.length) w' /\St E (jS mm r hg l' cap' zs::O) G a w' S' :=by
 obtain⟨l',cap',w',S',hr,hext,hsat,hh,hnew⟩:=ut (ty:=ty) ti hsz hz h0 h128 D st.sat st.own.1 st.base_le hsrc hrc happ
 refine⟨l',cap',w',S',hr,st.ext.step hext fun b V=>st.own.1.2 b V,hsat,⟨hh,fun f X b V hfb=>?_,st.own.2.2.ext hext fun f X b V hbl=>st.own.2.1 f X b hbl V⟩,st.facts.mono hext.keep⟩
 rcases hnew b V with h|h
 ·exact st.own.2.1 f X b h hfb
 ·have:=f.here (dg.mem st.own.2.2 f X).1 b hfb
  omega
def St.put{d:Nat}(h:St E O G a w S)(hd:Nat.blt d E.N.n=true)(hv:t.p S v):St E O ((d,t)::G) (a.put (some d) v) w S:=⟨h.ext,h.sat,h.own,h.facts.put hd hv⟩
def ww{r:Rp α}{t:TypeId}{sz:Nat}{agg:Bool}{n:Nat}{u:Nat->Option Nat->Ty}(ti:TI E.P hg sz bytes agg z)(hsz:r.sz=sz)(hz:Nat.beq z.length sz=true)(h0:Nat.blt 0 sz=true)(h128:Nat.ble bytes 2048=true)(D:E.P.underlying t=some (.slice hg))(hd:Nat.blt d E.N.n=true)(I:aF E.N G x (tV (aL l cap n)))(hy: ∀a w S,St E (jS mm r hg l cap xs::O) G a w S-> ∃news,Src E.P r.sz t' (a.eval y) ys.length news w/\qS r S news ys)(happ:jT xs ys=some zs)(hu: ∀l' cap' w0 S,(jS mm r hg l' cap' zs).p w0 S->(u cap' l').p S (aL l' cap' zs.length))(k: ∀l' cap',RG E ops Q rest (jS mm r hg l' cap' zs::O) ((d,u cap' l')::G))(hn:n=xs.length):
  RG E ops Q (⟨some d,.call ⟨.builtin .append,#[x,y],#[t,t']⟩,ty,pos,after,none⟩::rest) (jS mm r hg l cap xs::O) G:= .of rfl fun a w S st=>by
 subst hn
 have Y:a.eval x=aL l cap xs.length:=I S a st.facts
 obtain⟨news,J,Z⟩:=hy a w S st
 obtain⟨l',cap',w',S',hr,st'⟩:=st.append (ty:=ty) ti hsz hz h0 h128 D J Z happ
 have hrun:(execOp a.eval ⟨some d,.call ⟨.builtin .append,#[x,y],#[t,t']⟩,ty,pos,after,none⟩).run E.P w= .ok (.value (aL l' cap' zs.length)) w' :=by
  simp [execOp,resolve,invoke,builtin,Y,hr]
 refine⟨fun c h=>(by cases h),?_⟩
 rw [hrun]
 exact k l' cap' _ _ S' (st'.put hd (hu l' cap' w' S' st'.own.1.1))
def dE{r:Rp α}{t:TypeId}{sz:Nat}{agg:Bool}{n:Nat}(ti:TI E.P hg sz bytes agg z)(hsz:r.sz=sz)(hz:Nat.beq z.length sz=true)(h0:Nat.blt 0 sz=true)(h128:Nat.ble bytes 2048=true)(D:E.P.underlying t=some (.slice hg))(ht' :t' =t)(hd:Nat.blt d E.N.n=true)(I:aF E.N G x (tV (aL l cap n)))(hy:aF E.N G y (H (gJ r) ys))(happ:jT xs ys=some zs)(k: ∀l' cap',RG E ops Q rest (fD r hg l' cap' zs::O) ((d,tV (aL l' cap' zs.length))::G))(hn:n=xs.length:=by rfl):
  RG E ops Q (⟨some d,.call ⟨.builtin .append,#[x,y],#[t,t']⟩,ty,pos,after,none⟩::rest) (fD r hg l cap xs::O) G:=by
 subst ht'
 exact ww (u:=fun cap' l' =>tV (aL l' cap' zs.length)) ti hsz hz h0 h128 D hd I (fun a w S st=>uj D st.sat (hy S a st.facts)) happ (fun _ _ _ _ _=>rfl) k hn
def jo{r:Rp α}{t:TypeId}{sz:Nat}{agg:Bool}(ti:TI E.P hg sz bytes agg z)(hsz:r.sz=sz)(hz:Nat.beq z.length sz=true)(h0:Nat.blt 0 sz=true)(h128:Nat.ble bytes 2048=true)(D:E.P.underlying t=some (.slice hg))(ht' :t' =t)(hd:Nat.blt d E.N.n=true)(I:aF E.N G x (tO r l cap xs))(hy:aF E.N G y (H (gJ r) ys))(happ:jT xs ys=some zs)(k: ∀l' cap',RG E ops Q rest (hX r hg l' cap' zs::O) ((d,tO r l' cap' zs)::G)):
  RG E ops Q (⟨some d,.call ⟨.builtin .append,#[x,y],#[t,t']⟩,ty,pos,after,none⟩::rest) (hX r hg l cap xs::O) G:=by
 subst ht'
 exact ww (u:=fun cap' l' =>tO r l' cap' zs) ti hsz hz h0 h128 D hd (wH I) (fun a w S st=>uj D st.sat (hy S a st.facts)) happ (fun _ _ _ _ h=>⟨rfl,pC h⟩) k rfl
end
end

def xe(off:Nat): ∀(cs:List Value) (k:Nat) (pre mid post:List Value),mid.length=cs.length->pre.length=off+k->
  (cs.zipIdx k).foldl (fun(a:Array Value) x=>a.setIfInBounds (off+x.2) x.1) (pre++mid++post).toArray=(pre++cs++post).toArray
 |[],k,pre,mid,post,hm,_=>by
  have:mid=[]:=vj hm
  subst this;simp
 |c::cs,k,pre,mid,post,hm,hp=>by
  cases mid with
  |nil=>simp at hm
  |cons m mid=>
   simp only [List.zipIdx_cons,List.foldl_cons]
   have Y:(pre++(m::mid)++post).toArray.setIfInBounds (off+k) c=((pre++[c])++mid++post).toArray:=by
    rw [<-hp]
    simp
   rw [Y,xe off cs (k+1) (pre++[c]) mid post (by simpa using hm) (by simp;omega)]
   simp
def wI(v:Value)(off:Nat)(pre mid post:List Value)(hm:mid.length=v.cells.size)(hp:pre.length=off):
  v.cells.zipIdx.foldl (fun cs (x:Value×Nat)=>cs.setIfInBounds (off+x.2) x.1) (pre++mid++post).toArray=(pre++v.cells.toList++post).toArray:=by
 have:=xe off v.cells.toList 0 pre mid post (by simpa using hm) (by simpa using hp)
 rw [<-this,<-Array.foldl_toList]
 simp [Array.toList_zipIdx]
def sx{r:Rp α}{x:α}(h:r.rc S cs x):(r.val cs).cells=cs.toArray:=by
 unfold Rp.val
 cases ha:r.agg with
 |true=>simp [Value.cells]
 |false=>
  have hl:=r.len h
  rw [r.sc ha]at hl
  match cs,hl with
  |[c],_=>
   have:=r.one h c (by simp)
   cases c<;>simp_all [Value.cells,Value.oneCell']
def yQ:Nat->List Value->List (Nat×Value)
 |_,[]=>[]
 |k,v::vs=>(k,v)::yQ (k+1) vs
def AI{α:Type}{r:Rp α}{S:SH}: ∀(ys:List α) (vs:List Value) (k:Nat) (pre zs:List Value),tX S (ys.map (H r)) vs->pre.length=k*r.sz->zs.length=ys.length*r.sz->
  ∃cs,qS r S cs ys/\Instr.fill (fun i=>some (i*r.sz,r.sz)) (pre++zs).toArray (yQ k vs)=some (pre++cs).toArray
 |[],[],k,pre,zs,_,_,hz=>by
  have:zs=[]:=vj (by simpa using hz)
  subst this
  exact⟨[],rfl,by simp [yQ,Instr.fill]⟩
 |y::ys,v::vs,k,pre,zs,⟨⟨c,e,hc⟩,J⟩,hp,hz=>by
  have hl:=r.len hc
  have hz' :r.sz<=zs.length:=by rw [hz,jv,tY];omega
  have e1:zs=zs.take r.sz++zs.drop r.sz:=(sn _ _).symm
  have hcells:v.cells=c.toArray:=by rw [e];exact sx hc
  obtain⟨cs,Z,h4⟩:=AI ys vs (k+1) (pre++c) (zs.drop r.sz) J (by rw [jO,hp,hl,tY];omega) (by rw [Bj,hz,jv,tY];omega)
  refine⟨c++cs,⟨c,cs,rfl,hc,Z⟩,?_⟩
  have hs:v.cells.size=r.sz:=by rw [hcells];simpa using hl
  have hcond: ¬((v.cells.size≠r.sz)\/(k*r.sz+v.cells.size>(pre++zs).toArray.size)):=by
   simp [hs];omega
  have h5:=wI v (k*r.sz) pre (zs.take r.sz) (zs.drop r.sz) (by simp [hs];omega) hp
  rw [jC,<-e1]at h5
  simp only [yQ,Instr.fill]
  rw [bn (by simpa using hcond)]
  rw [h5,hcells]
  simpa using h4
def vE:Nat->List Operand->List (Nat×Operand)
 |_,[]=>[]
 |k,v::vs=>(k,v)::vE (k+1) vs
def ye(ρ:Operand->Value): ∀(k:Nat) (xs:List Operand),(vE k xs).map (fun x=>(x.1,ρ x.2))=yQ k (xs.map ρ)
 |_,[]=>rfl
 |k,x::xs=>by simp [vE,yQ,ye ρ (k+1) xs]

variable{parts:List (Nat×Operand)}
section
variable{E:En}{ty:TypeId}
def ur{P:Program}{r:Rp α}{xs:List Operand}{ρ:Operand->Value}{t:TypeId}{n sz:Nat}{agg:Bool}(D:P.underlying t=some (.slice hg))(ti:TI P hg sz bytes agg z)(hsz:r.sz=sz)(hn:n=ys.length)(V:Nat.ble (n*sz) 16777216=true)(I:tX S (ys.map (H r)) (xs.map ρ))(w:World):
  ∃cs,qS r S cs ys/\(Instr.buildSlice t n ((vE 0 xs).toArray.map fun x=>(x.1,ρ x.2))).run P w= .ok (.slice (some ⟨w.heap.size,0,none⟩) n n) (w.alloc (.cells cs.toArray hg (0,0))):=by
 subst hsz
 have hb' :=pz V
 obtain⟨zv,hzr,_⟩:=ti.zero w
 obtain⟨cs,hc,hfill⟩:=AI ys (xs.map ρ) 0 [] ((Array.range (n*r.sz)).map (fun i=>(if n*r.sz=0 then #[]else zv.cells)[i%(if n*r.sz=0 then #[]else zv.cells).size]!)).toList I (by simp) (by simp [hn])
 refine⟨cs,hc,?_⟩
 have hparts:((vE 0 xs).toArray.map fun x=>(x.1,ρ x.2)).toList=yQ 0 (xs.map ρ):=by simp [ye]
 simp only [je,Array.toArray_toList]at hfill
 have hle: ¬(n*r.sz>2^24):=by omega
 by_cases hn0:n*r.sz=0
 ·simp only [hn0,gu]at hfill
  simp only [Instr.buildSlice,sW,jB D,uc,ti.sizeOf,Sem.run_ite,hn0,gu,Sem.run_pure,hparts,hfill]
  simp [newRow]
 ·simp only [hn0,gE]at hfill
  simp only [Instr.buildSlice,sW,jB D,uc,ti.sizeOf,Sem.run_ite,hle,gE,hn0,Sem.run_pure,hzr,hparts,hfill]
  simp [newRow]
def aW{r:Rp α}{xs:List Operand}{t:TypeId}{n sz:Nat}{agg:Bool}(D:E.P.underlying t=some (.slice hg))(ti:TI E.P hg sz bytes agg z)(hsz:r.sz=sz)(h0:Nat.blt 0 sz=true)(hp:parts=vE 0 xs)(hn:n=ys.length)(V:Nat.ble (n*sz) 16777216=true)(I:il E.N G xs (ys.map (H r))):bT E O G ⟨dst,.buildSlice t n parts.toArray,ty,pos,after,g⟩ (H (gJ r) ys):=
 .of_run fun a w S hs _ X=>by
  obtain⟨cs,hc,hr⟩:=ur D ti hsz hn V (I.tys X) w
  subst hsz
  have hb' :=pz V
  have h0' :0<r.sz:=by simpa [tM] using h0
  have hnle:n<=n*r.sz:=Nat.le_mul_of_pos_right n h0'
  obtain⟨he,hs'⟩:=rP (w:=w) (.cells cs.toArray hg (0,0)) hs
  have hcl:=mw hc
  refine⟨.slice (some ⟨w.heap.size,0,none⟩) n n,_,_,?_,he,hs',lI.2 ⟨_,n,by rw [hn],by omega,by simp only [maxLen];omega,.inr ⟨w.heap.size,0,cs.toArray,hg,(0,0),rfl,by simp [SH.set],?_⟩⟩⟩
  ·subst hp
   simp only [execOp,sW,hr,uc,Sem.run_pure]
  ·have:qS r (S.set w.heap.size (.cells cs.toArray hg (0,0))) cs ys:=qR he.keep hc
   simpa [<-hcl] using this
def JP{r:Rp α}{v:α}(I:aF E.N G x (H r v)):bT E O G ⟨dst,.box hg x,ty,pos,after,g⟩ (bC r v):=
 .of_run fun a w S hs _ X=>by
  obtain⟨cs,hv,hc⟩:=I S a X
  obtain⟨he,hs'⟩:=rP (w:=w) (.cells cs.toArray hg (0,0)) hs
  refine⟨.pointer (some ⟨w.heap.size,0,none⟩),_,_,?_,he,hs',w.heap.size,0,cs.toArray,hg,(0,0),rfl,by simp [SH.set],?_⟩
  ·simp [execOp,Instr.box,newVar,newRow,hv,sx hc]
  ·have:=r.mono he.keep hc
   have hl:=r.len hc
   simpa [<-hl] using this
end

def lC(c:Bool)(t:Ty):Ty where
 p:=fun S v=>if c=true then t.p S v else v=undef
 mono:=fun h k=>by
  split
  ·rename_i hc;rw [bE hc]at k;exact t.mono h k
  ·rename_i hc;rw [bn hc]at k;exact k
variable{gs:Nat}{pol:Bool}
section
variable{E:En}
def df{N:Fr}{c:Bool}(h:bM G k=some (lC c t))(hc:c=true):aF N G (.tmp k) t:=fun _ _ hF=>by
 have J:if c=true then t.p _ (Act.eval _ (.tmp k))else _=undef:=hF.at_ k _ h
 rw [bE hc]at J;exact J
def rE(c b:Bool):Ty:=lC c (H rB b)
def rD(h:bM G k=some (H rB b)):aF E.N G (.tmp k) (rE true b):=fun _ _ hF=>by
 have J:(H rB b).p _ (Act.eval _ (.tmp k)):=hF.at_ k _ h
 simp only [rE,lC,gu]
 exact J
def Cc{c:Bool}(h:bM G k=some (lC c (H rB b))):aF E.N G (.tmp k) (rE c b):=fun _ _ hF=>hF.at_ k _ h
def zC{c:Bool}(T:o.guard=some (j,pol))(hj:(ops[j]?).bind (·.dst)=some gs)(hn:gs<a.tmps.size)(hv:(rE c b).p S (a.tmps.getD gs undef)):
  Region.wanted o (yielded ops a.tmps)=(c&&(b==pol)):=by
 have hget:a.tmps[gs]? =some (a.tmps.getD gs undef):=by
  rw [DC,Array.getElem?_eq_getElem hn];rfl
 unfold Region.wanted
 rw [T]
 simp only [yielded,hj,bo,hget]
 cases c with
 |true=>
  have:a.tmps.getD gs undef= .bool b:=iC.1 (by simpa [rE,lC] using hv)
  rw [this]
  cases b<;>cases pol<;>rfl
 |false=>
  have:a.tmps.getD gs undef=undef:=by simpa [rE,lC] using hv
  rw [this]
  cases pol<;>rfl
def Du{c:Bool}{op:Op}{ty:TypeId}(hj:(ops[j]?).bind (·.dst)=some gs)(hgs:Nat.blt gs E.N.n=true)(T:aF E.N G (.tmp gs) (rE c b))(hd:Nat.blt d E.N.n=true)(h:(c&&(b==pol))=true->bT E O G ⟨some d,op,ty,pos,after,some (j,pol)⟩ t)(k:RG E ops Q rest O ((d,lC (c&&(b==pol)) t)::G)):
  RG E ops Q (⟨some d,op,ty,pos,after,some (j,pol)⟩::rest) O G:=fun a w S st=>by
 have hgs' :gs<a.tmps.size:=by rw [st.facts.size];simpa [tM] using hgs
 have hw:=zC (o:=⟨some d,op,ty,pos,after,some (j,pol)⟩) rfl hj hgs' (T S a st.facts)
 refine wpListIn_step fun ah hK=>?_
 rw [hw]
 by_cases hc:(c&&(b==pol))=true
 ·rw [bE hc]
  refine jD (fun a' w' ⟨v,S',ha,he,hs,hv⟩=>?_) (h hc a w S st.sat st.own st.facts)
  subst ha
  refine hK _ _ (k _ _ _ (st.step he hs hd ?_))
  simpa only [lC,hc,gu] using hv
 ·rw [bn hc]
  refine⟨fun _ _=>trivial,hK _ _ (k _ _ S (st.step (gU.refl _ _ _) st.sat hd ?_))⟩
  show if _ then _ else _
  rw [bn hc]
end

structure Nd where
 slot:Nat
 ty:Ty
 src:Option Nat
def bQ(E:En)(O:List OE)(ops:Array Oper)(need:jZ)(o:Oper)(t:Ty):Prop:=
 ∀a w S,jA w S->dg E.base E.B w S O->cW E.N S a need->
  if Region.wanted o (yielded ops a.tmps)then Ef E.P o a w (fun a' w' => ∃v S',a' =a.put o.dst v/\gU oW w S w' S' /\jA w' S' /\t.p S' v)else t.p S undef
def g9:List Nd->jZ
 |[]=>[]
 |n::l=>(n.slot,n.ty)::g9 l
def yz(o:Oper)(j:Nat):Bool:=o.after.toList.any fun e=>Nat.beq e.on j&&Region.binds .any e
def lQ(l:List Oper)(o:Oper)(i:Nat)(n:Nd):Bool:=
 match n.src with
 |some j=>(match l[j]? with|some p=>(match p.dst with|some d=>Nat.beq d n.slot|none=>false)|none=>false)&&yz o j
 |none=>l.all fun p=>(match p.dst with|some d=> !(Nat.beq d n.slot)|none=>true)||yz p i
def tW(G:jZ)(ts:List Ty)(n:Nd):Prop:=
 match n.src with
 |some j=>ts[j]? =some n.ty
 |none=>bM G n.slot=some n.ty
def oK(G:jZ)(ts:List Ty):List Nd->Prop
 |[]=>True
 |n::l=>tW G ts n/\oK G ts l
def oK.mem: ∀{l:List Nd},oK G ts l-> ∀n∈l,tW G ts n
 |_::_,⟨h,_⟩,_,.head _=>h
 |_::_,⟨_,h⟩,_,.tail _ hm=>oK.mem h _ hm
def MT(o:Oper):Nat:=o.dst.getD 0
def dF(i:Nat)(o:Oper):Bool:=o.after.toList.all fun e=> !(Region.binds .any e)||Nat.blt e.on i
def DR(E:En)(O:List OE)(G:jZ)(l:List Oper)(ts:List Ty):Nat->List Oper->Prop
 |_,[]=>True
 |i,o::rest=>(∃(needs:List Nd) (t:Ty),ts[i]? =some t/\oK G ts needs/\(needs.all (lQ l o i))=true/\dF i o=true/\bQ E O l.toArray (g9 needs) o t)/\DR E O G l ts (i+1) rest
def s3(N:Nat):List Nat->List Oper->Bool
 |_,[]=>true
 |seen,o::rest=>(match o.dst with|some d=>Nat.blt d N&& !(seen.any (Nat.beq d))&&s3 N (d::seen) rest|none=>false)
def SV(E:En)(O:List OE)(G:jZ)(l:List Oper)(ts:List Ty)(i:Nat)(o:Oper):Prop:=
 ∃(needs:List Nd) (t:Ty),ts[i]? =some t/\oK G ts needs/\(needs.all (lQ l o i))=true/\dF i o=true/\bQ E O l.toArray (g9 needs) o t
def DR.get{E:En}{l:List Oper}(r:List Oper): ∀(k:Nat),DR E O G l ts k r-> ∀(j:Nat) (o:Oper),r[j]? =some o->SV E O G l ts (k+j) o:=by
 induction r with
 |nil=>intro k _ j o h;simp at h
 |cons p r ih=>
  intro k h j o ho
  cases j with
  |zero=>simp at ho;subst ho;exact h.1
  |succ j=>
   have:=ih (k+1) h.2 j o (by simpa using ho)
   rwa [show k+1+j=k+(j+1)from by omega]at this
def uk{N:Nat}(l:List Oper): ∀(seen:List Nat),s3 N seen l=true->
  (∀o:Oper,o∈l-> ∃d,o.dst=some d/\d<N/\d∉seen)/\ ∀(i j:Nat) (o p:Oper),l[i]? =some o->l[j]? =some p->o.dst=p.dst->i=j:=by
 induction l with
 |nil=>exact fun _ _=>⟨fun _ h=>(by cases h),fun _ _ _ _ h=>(by simp at h)⟩
 |cons o l ih=>
  intro seen h
  unfold s3 at h
  cases hd:o.dst with
  |none=>rw [hd]at h;cases h
  |some d=>
   rw [hd]at h
   simp only [jX,yu]at h
   obtain⟨⟨Y,J⟩,Z⟩:=h
   have h2' :d∉seen:=fun hm=>by
    rw [List.any_eq_false]at J
    exact J d hm (by simp)
   obtain⟨ih1,ih2⟩:=ih _ Z
   refine⟨fun q hq=>?_,fun i j q p hi hj hdp=>?_⟩
   ·rcases gB.1 hq with rfl|hq
    ·exact⟨d,hd,by simpa [tM] using Y,h2'⟩
    ·obtain⟨d',e1,e2,e3⟩:=ih1 q hq
     exact⟨d',e1,e2,fun hm=>e3 (nu _ hm)⟩
   ·cases i with
    |zero=>
     cases j with
     |zero=>rfl
     |succ j=>
      simp at hi hj
      subst hi
      obtain⟨d',e1,_,e3⟩:=ih1 p (sm hj)
      rw [hd,e1]at hdp
      have e4:d=d' :=by simpa using hdp
      exact absurd (by rw [e4];exact mp ..) e3
    |succ i=>
     cases j with
     |zero=>
      simp at hi hj
      subst hj
      obtain⟨d',e1,_,e3⟩:=ih1 q (sm hi)
      rw [hd,e1]at hdp
      have e4:d' =d:=by simpa using hdp
      exact absurd (by rw [e4];exact mp ..) e3
     |succ j=>rw [ih2 i j q p (by simpa using hi) (by simpa using hj) hdp]

structure DJ(E:En)(O:List OE)(G:jZ)(l:List Oper)(ts:List Ty)(done:Array Bool)(a:Act)(w:World)(S:SH):Prop where
 ext:gU E.B E.w0 E.S0 w S
 sat:jA w S
 own:dg E.base E.B w S O
 size:a.tmps.size=E.N.n
 defers:a.defers=E.N.ds
 dsz:done.size=l.length
 down: ∀j o,l[j]? =some o->done.getD j false=true-> ∀e∈o.after,Region.binds .any e=true->done.getD e.on false=true
 old: ∀k t,bM G k=some t->(∀j o,l[j]? =some o->done.getD j false=true->o.dst≠some k)->t.p S (a.tmps.getD k undef)
 new: ∀j o d t,l[j]? =some o->done.getD j false=true->o.dst=some d->ts[j]? =some t->t.p S (a.tmps.getD d undef)
variable{done:Array Bool}
def DJ.need{E:En}{l:List Oper}(h:DJ E O G l ts done a w S)(hi:l[i]? =some o)(hun:done.getD i true=false)(hwait: ∀e∈o.after,Region.binds .any e=true->done.getD e.on false=true){needs:List Nd}(Y:oK G ts needs)(J:(needs.all (lQ l o i))=true):cW E.N S a (g9 needs):=by
 have hlt:i<done.size:=by rw [h.dsz];exact(qr.1 hi).1
 have hun' :done.getD i false=false:=by
  simp [hlt]at hun ⊢;exact hun
 refine⟨h.size,h.defers,?_⟩
 have key: ∀n∈needs,n.ty.p S (a.tmps.getD n.slot undef):=by
  intro n hn
  have hs:=jV.1 J n hn
  have ho:=Y.mem n hn
  unfold lQ at hs
  unfold tW at ho
  cases hsrc:n.src with
  |some j=>
   rw [hsrc]at hs ho
   simp only [jX]at hs
   obtain⟨hs1,hs2⟩:=hs
   cases hj:l[j]? with
   |none=>rw [hj]at hs1;cases hs1
   |some p=>
    rw [hj]at hs1
    cases hd:p.dst with
    |none=>simp only [hd]at hs1;cases hs1
    |some d=>
     simp only [hd]at hs1
     have hd' :=nL hs1
     subst hd'
     have hdone:done.getD j false=true:=by
      unfold yz at hs2
      obtain⟨e,he0,V⟩:=vJ.1 hs2
      have he:e∈o.after:=by simpa using he0
      simp only [jX]at V
      have:=hwait e he V.2
      rwa [nL V.1]at this
     exact h.new j p n.slot n.ty hj hdone hd ho
  |none=>
   rw [hsrc]at hs ho
   refine h.old _ _ ho fun j p hj hdone hd=>?_
   have:=jV.1 hs p (sm hj)
   simp only [hd,Nat.beq_refl,mq,ug]at this
   unfold yz at this
   obtain⟨e,he0,V⟩:=vJ.1 this
   have he:e∈p.after:=by simpa using he0
   simp only [jX]at V
   have Z:=h.down j p hj hdone e he V.2
   rw [nL V.1]at Z
   rw [Z]at hun'
   cases hun'
 clear Y J
 intro k t hk
 induction needs with
 |nil=>simp [g9,bM]at hk
 |cons n needs ih=>
  unfold g9 bM at hk
  by_cases V:Nat.beq n.slot k=true
  ·rw [V]at hk
   have:=nL V
   subst this
   have e:n.ty=t:=by simpa using hk
   rw [<-e]
   exact key n (mp ..)
  ·rw [wC]at V
   rw [V]at hk
   exact ih (fun m hm=>key m (nu _ hm)) hk
def F7:List Oper->List Ty->jZ->jZ
 |o::l,t::ts,G=>(MT o,t)::F7 l ts G
 |_,_,G=>G
def B8(l:List Oper): ∀(ts:List Ty) (k:Nat) (t:Ty),(∀o:Oper,o∈l->o.dst≠none)->ts.length=l.length->bM (F7 l ts G) k=some t->
  (∃(j:Nat) (o:Oper),l[j]? =some o/\o.dst=some k/\ts[j]? =some t)\/(bM G k=some t/\ ∀o:Oper,o∈l->o.dst≠some k):=by
 induction l with
 |nil=>
  intro ts k t _ hl h
  have:ts=[]:=vj (by simpa using hl)
  subst this
  exact .inr ⟨h,fun _ h=>(by cases h)⟩
 |cons o l ih=>
  intro ts k t hne hl h
  cases ts with
  |nil=>simp at hl
  |cons u ts=>
   unfold F7 bM at h
   by_cases V:Nat.beq (MT o) k=true
   ·rw [V]at h
    have hk:=nL V
    refine .inl ⟨0,o,rfl,?_,by simpa using h⟩
    cases hd:o.dst with
    |none=>exact absurd hd (hne o (mp ..))
    |some d=>simp only [MT,hd,BK]at hk;rw [hk]
   ·rw [wC]at V
    rw [V]at h
    rcases ih ts k t (fun p hp=>hne p (nu _ hp)) (by simpa using hl) h with⟨j,p,Y,J,Z⟩|⟨Y,J⟩
    ·exact .inl ⟨j+1,p,by simpa using Y,J,by simpa using Z⟩
    ·refine .inr ⟨Y,fun p hp hd=>?_⟩
     rcases gB.1 hp with rfl|hp
     ·simp [MT,hd]at V
     ·exact J p hp hd
def pl(hd:d<a.tmps.size):(a.put (some d) v).tmps.getD k undef=if d=k then v else a.tmps.getD k undef:=by
 by_cases h:d=k
 ·subst h;simp [Act.put,DC,hd]
 ·simp [Act.put,DC,h]
def DJ.step{E:En}{l:List Oper}(h:DJ E O G l ts done a w S)(hsl:s3 E.N.n [] l=true)(hi:l[i]? =some o)(hwait: ∀e∈o.after,Region.binds .any e=true->done.getD e.on false=true)(D:ts[i]? =some t)(hun:done.getD i true=false)(hext:gU oW w S w' S')(hsat:jA w' S')(hv:t.p S' v):DJ E O G l ts (done.setIfInBounds i true) (a.put o.dst v) w' S' :=by
 obtain⟨hs1,hs2⟩:=uk l [] hsl
 obtain⟨d,hd,hdN,_⟩:=hs1 o (sm hi)
 have hda:d<a.tmps.size:=by rw [h.size];exact hdN
 have hlt:i<done.size:=by rw [h.dsz];exact(qr.1 hi).1
 have hset: ∀j,(done.setIfInBounds i true).getD j false=true->j=i\/done.getD j false=true:=fun j hj=>by
  by_cases hij:i=j
  ·exact .inl hij.symm
  ·rw [sv false hij]at hj;exact .inr hj
 have hseti:(done.setIfInBounds i true).getD i false=true:=by simp [hlt]
 have hun' :done.getD i false=false:=by simp [hlt]at hun ⊢;exact hun
 refine⟨h.ext.step0 hext,hsat,h.own.ext0 hext,?_,?_,by simp [h.dsz],fun j p hj hdone e he V=>?_,fun k u hk hno=>?_,fun j p d' u hj hdone hd' hu=>?_⟩
 ·rw [hd];simp [Act.put,h.size]
 ·rw [hd];exact h.defers
 ·rcases hset j hdone with rfl|hj'
  ·rw [hi]at hj
   have:o=p:=by simpa using hj
   subst this
   exact sX (hwait e he V)
  ·exact sX (h.down j p hj hj' e he V)
 ·have hne:d≠k:=fun e=>hno i o hi hseti (by rw [hd,e])
  rw [hd,pl hda,bn hne]
  exact u.mono hext.keep (h.old k u hk fun j p hj hdone=>hno j p hj (sX hdone))
 ·rw [hd,pl hda]
  rcases hset j hdone with rfl|hj'
  ·rw [hi]at hj
   have:o=p:=by simpa using hj
   subst this
   rw [hd]at hd'
   have:d=d' :=by simpa using hd'
   subst this
   rw [bE rfl]
   rw [D]at hu
   have:t=u:=by simpa using hu
   subst this
   exact hv
  ·have hne:d≠d' :=fun e=>by
    subst e
    have:=hs2 i j o p hi hj (by rw [hd,hd'])
    subst this
    rw [hj']at hun';cases hun'
   rw [bn hne]
   exact u.mono hext.keep (h.new j p d' u hj hj' hd' hu)
def Ff{l:List Oper}{done:Array Bool}(hsz:done.size=l.length)(hedge: ∀i o,l[i]? =some o->dF i o=true)(hr:Region.ready .any l.toArray done=[]): ∀n i,i<n->i<l.length->done.getD i false=true
 |0,i,h,_=>by omega
 |n+1,i,h,hi=>by
  have ih:=Ff hsz hedge hr n
  by_cases hd:done.getD i true=true
  ·have:i<done.size:=by omega
   simp [this]at hd ⊢;exact hd
  ·exfalso
   have hmem:i∈Region.ready .any l.toArray done:=by
    rw [qD]
    refine⟨by simpa using hd,l[i],by simp [hi],fun e he V=>?_⟩
    have:=hedge i l[i] (by simp [hi])
    unfold dF at this
    have:=jV.1 this e (by simpa using he)
    simp only [V,mq,ug,tM]at this
    exact ih e.on (by omega) (by omega)
   rw [hr]at hmem
   cases hmem
def jP(done:Array Bool):Nat:=done.toList.countP (· ==false)
def oN(h:done.getD i true=false):jP (done.setIfInBounds i true)+1=jP done:=by
 have hlt:i<done.size:=by
  rcases lz i done.size with h' |h'
  ·exact h'
  ·simp [Array.getElem?_eq_none h']at h
 have hv:done[i]=false:=by simpa [hlt] using h
 unfold jP
 rw [Array.toList_setIfInBounds,List.countP_set (by simpa using hlt)]
 have J:(done.toList[i]'(by simpa using hlt))=false:=by simpa using hv
 have hpos:0<done.toList.countP (· ==false):=List.countP_pos_iff.2 ⟨done.toList[i]'(by simpa using hlt),Bk _,by rw [J];rfl⟩
 rw [J,bE (show(false==false)=true from rfl),bn (show¬((true==false)=true) by decide)]
 omega
def FE{E:En}{l:List Oper}(hsl:s3 E.N.n [] l=true)(hd:DR E O G l ts 0 l)(hQ: ∀done a w S,DJ E O G l ts done a w S->(∀i,i<l.length->done.getD i false=true)->Q .normal a w):
  ∀(fuel:Nat) (done:Array Bool) (a:Act) (w:World) (S:SH),jP done=fuel->DJ E O G l ts done a w S->wpAnyIn (fw E.r) 0 E.P .any l.toArray Q fuel done a w:=by
 have hedge: ∀i o,l[i]? =some o->dF i o=true:=fun i o hi=>by
  obtain⟨_,_,_,_,_,h,_⟩:=DR.get l 0 hd i o hi
  simpa using h
 have fin: ∀done a w S,DJ E O G l ts done a w S->Region.ready .any l.toArray done=[]->Q .normal a w:=fun done a w S h hr=>
  hQ done a w S h fun i hi=>Ff h.dsz hedge hr (i+1) i (by omega) hi
 intro fuel
 induction fuel with
 |zero=>
  intro done a w S hu h
  have hr:Region.ready .any l.toArray done=[]:=by
   cases hr:Region.ready .any l.toArray done with
   |nil=>rfl
   |cons i r=>
    have hm:i∈Region.ready .any l.toArray done:=by rw [hr];exact mp ..
    have:=oN (qD.1 hm).1
    omega
  exact⟨hr,fin done a w S h hr⟩
 |succ fuel ih=>
  intro done a w S hu h
  refine⟨fin done a w S h,fun i hi=>?_⟩
  obtain⟨hun,o,ho,hwait⟩:=qD.1 hi
  have ho' :l[i]? =some o:=by simpa using ho
  obtain⟨needs,t,Y,J,Z,_,h5⟩:=DR.get l 0 hd i o ho'
  rw [pS]at Y Z
  have hF:=h.need ho' hun hwait J Z
  have h6:=h5 a w S h.sat h.own hF
  have hu' :jP (done.setIfInBounds i true)=fuel:=by have:=oN hun;omega
  unfold wpOpIn
  rw [ho]
  show if _ then _ else _
  by_cases hw:Region.wanted o (yielded l.toArray a.tmps)=true
  ·rw [bE hw]at h6 ⊢
   refine jD (fun a' w' ⟨v,S',ha,he,hs,hv⟩=>?_) h6
   subst ha
   exact ih _ _ _ S' hu' (h.step hsl ho' hwait Y hun he hs hv)
  ·rw [bn hw]at h6 ⊢
   exact⟨fun _ _=>trivial,ih _ _ _ S hu' (h.step hsl ho' hwait Y hun (gU.refl _ _ _) h.sat h6)⟩
section
variable{E:En}
def hD{id:Nat}{l:List Oper}(hm:E.P.follows .mixedOrders=true)(hsl:s3 E.N.n [] l=true)(hlen:ts.length=l.length)(hd:DR E O G l ts 0 l)(k:AT E Q .normal O (F7 l ts G)):
  CG E Q (.region id l.toArray true) O G:=fun a w S st=>by
 refine wpIn_region_any hm ?_
 obtain⟨he,hs⟩:=uP (w:=w) st.sat
 refine FE hsl hd (fun done a w S h hall=>k a w S ⟨h.ext,h.sat,h.own,h.size,h.defers,fun j t hj=>?_⟩) _ _ _ _ S ?_
  ⟨st.ext.step0 he,hs,st.own.ext0 he,st.facts.size,st.facts.defers,by simp,fun j o hj hdone=>?_,fun k t hk _=>st.facts.at_ k t hk,fun j o d t hj hdone=>?_⟩
 ·obtain⟨hs1,_⟩:=uk l [] hsl
  rcases B8 l ts j t (fun o ho e=>by obtain⟨d,hd,_⟩:=hs1 o ho;rw [hd]at e;cases e) hlen hj with⟨i,o,Y,J,Z⟩|⟨Y,J⟩
  ·exact h.new i o j t Y (hall i (qr.1 Y).1) J Z
  ·exact h.old j t Y fun i o ho _=>J o (sm ho)
 ·unfold jP;rw [G3,G1];simp
 ·simp [vK]at hdone
  split at hdone<;>simp at hdone
 ·simp [vK]at hdone
  split at hdone<;>simp at hdone
def ae{need:jZ}(T:o.guard=none)(h:bT E O need o t):bQ E O ops need o t:=fun a w S hs ho X=>by
 have:Region.wanted o (yielded ops a.tmps)=true:=by unfold Region.wanted;rw [T]
 rw [this,bE rfl]
 exact h a w S hs ho X
def yV{l:List Oper}{need:jZ}{c:Bool}(T:o.guard=some (j,pol))(hj:((l.toArray)[j]?).bind (·.dst)=some gs)(hgs:Nat.blt gs E.N.n=true)(V:aF E.N need (.tmp gs) (rE c b))(h:(c&&(b==pol))=true->bT E O need o t):bQ E O l.toArray need o (lC (c&&(b==pol)) t):=fun a w S hs ho X=>by
 have hw:=zC (ops:=l.toArray) T hj (by rw [X.size];simpa [tM] using hgs) (V S a X)
 rw [hw]
 by_cases hc:(c&&(b==pol))=true
 ·rw [bE hc]
  refine my (fun a' w' ⟨v,S',ha,he,hs,hv⟩=>⟨v,S',ha,he,hs,?_⟩) (h hc a w S hs ho X)
  show if _ then _ else _
  rw [bE hc];exact hv
 ·rw [bn hc]
  show if _ then _ else _
  rw [bn hc]
end
variable{α0 α1 α2 α3 α4 α5:Type}{Gf:α0->α1->α2->α3->α4->α5->jZ}{Of:α0->α1->α2->α3->α4->α5->List OE}{α6:Type}
section
variable{E:En}
def I6{id:Nat}{h3:Prop}{Of:List OE}{Gf:jZ}(hK:h3->AT E Q .normal (Of) (Gf))(h:(h3->AT E Q .normal (Of) (Gf))->CG E (Exit.inBlock id Q) c O G):CG E Q (.block id c) O G:=av (h hK)
def I2{x y:Code}{h3:Prop}{Of:List OE}{Gf:jZ}(hK:h3->CG E Q y (Of) (Gf))
  (h:(h3->AT E (Exit.then (y.wpIn (fw E.r) 0 E.P Q) Q) .normal (Of) (Gf))->CG E (Exit.then (y.wpIn (fw E.r) 0 E.P Q) Q) x O G):CG E Q (.seq x y) O G:=aI (h (fun hz=>hK hz))
def jq{h3:List β->α0->Prop}{Of:List β->α0->List OE}{Gf:List β->α0->jZ}(h0: ∀x0,h3 [] x0->LG E Q c (Of [] x0) (Gf [] x0))(h: ∀b l,(∀x0,h3 l x0->LG E Q c (Of l x0) (Gf l x0))-> ∀x0,h3 (b::l) x0->LG E Q c (Of (b::l) x0) (Gf (b::l) x0)): ∀l,∀x0,h3 l x0->LG E Q c (Of l x0) (Gf l x0)
 |[]=>h0
 |b::l=>h b l (jq h0 h l)
def Cv{id:Nat}{h3:α0->Prop}{Of:α0->List OE}{Gf:α0->jZ}(hK: ∀x0,h3 x0->AT E Q .normal (Of x0) (Gf x0))(h:(∀x0,h3 x0->AT E Q .normal (Of x0) (Gf x0))->CG E (Exit.inBlock id Q) c O G):CG E Q (.block id c) O G:=av (h hK)
def jd{x y:Code}{h3:α0->Prop}{Of:α0->List OE}{Gf:α0->jZ}(hK: ∀x0,h3 x0->CG E Q y (Of x0) (Gf x0))(h:(∀x0,h3 x0->AT E (Exit.then (y.wpIn (fw E.r) 0 E.P Q) Q) .normal (Of x0) (Gf x0))->CG E (Exit.then (y.wpIn (fw E.r) 0 E.P Q) Q) x O G):CG E Q (.seq x y) O G:=aI (h (fun x0=>fun hz=>hK x0 hz))
def HT{h3:Nat->α0->α1->Prop}{Of:α0->α1->List OE}{Gf:α0->α1->jZ}(h0: ∀x0 x1,h3 0 x0 x1->False)(h: ∀n,(∀x0 x1,h3 n x0 x1->LG E Q c (Of x0 x1) (Gf x0 x1))-> ∀x0 x1,h3 (n+1) x0 x1->LG E Q c (Of x0 x1) (Gf x0 x1)): ∀n,∀x0 x1,h3 n x0 x1->LG E Q c (Of x0 x1) (Gf x0 x1)
 |0=>fun x0 x1 hz=>(h0 x0 x1 hz).elim
 |n+1=>h n (HT h0 h n)
def jp{h3:List β->α0->α1->Prop}{Of:List β->α0->α1->List OE}{Gf:List β->α0->α1->jZ}(h0: ∀x0 x1,h3 [] x0 x1->LG E Q c (Of [] x0 x1) (Gf [] x0 x1))(h: ∀b l,(∀x0 x1,h3 l x0 x1->LG E Q c (Of l x0 x1) (Gf l x0 x1))-> ∀x0 x1,h3 (b::l) x0 x1->LG E Q c (Of (b::l) x0 x1) (Gf (b::l) x0 x1)): ∀l,∀x0 x1,h3 l x0 x1->LG E Q c (Of l x0 x1) (Gf l x0 x1)
 |[]=>h0
 |b::l=>h b l (jp h0 h l)
def I5{id:Nat}{h3:α0->α1->Prop}{Of:α0->α1->List OE}{Gf:α0->α1->jZ}(hK: ∀x0 x1,h3 x0 x1->AT E Q .normal (Of x0 x1) (Gf x0 x1))(h:(∀x0 x1,h3 x0 x1->AT E Q .normal (Of x0 x1) (Gf x0 x1))->CG E (Exit.inBlock id Q) c O G):CG E Q (.block id c) O G:=av (h hK)
def I1{x y:Code}{h3:α0->α1->Prop}{Of:α0->α1->List OE}{Gf:α0->α1->jZ}(hK: ∀x0 x1,h3 x0 x1->CG E Q y (Of x0 x1) (Gf x0 x1))(h:(∀x0 x1,h3 x0 x1->AT E (Exit.then (y.wpIn (fw E.r) 0 E.P Q) Q) .normal (Of x0 x1) (Gf x0 x1))->CG E (Exit.then (y.wpIn (fw E.r) 0 E.P Q) Q) x O G):CG E Q (.seq x y) O G:=aI (h (fun x0 x1=>fun hz=>hK x0 x1 hz))
def uO{h3:List β->α0->α1->α2->Prop}{Of:List β->α0->α1->α2->List OE}{Gf:List β->α0->α1->α2->jZ}(h0: ∀x0 x1 x2,h3 [] x0 x1 x2->LG E Q c (Of [] x0 x1 x2) (Gf [] x0 x1 x2))(h: ∀b l,(∀x0 x1 x2,h3 l x0 x1 x2->LG E Q c (Of l x0 x1 x2) (Gf l x0 x1 x2))-> ∀x0 x1 x2,h3 (b::l) x0 x1 x2->LG E Q c (Of (b::l) x0 x1 x2) (Gf (b::l) x0 x1 x2)): ∀l,∀x0 x1 x2,h3 l x0 x1 x2->LG E Q c (Of l x0 x1 x2) (Gf l x0 x1 x2)
 |[]=>h0
 |b::l=>h b l (uO h0 h l)
def HQ{h3:Nat->α0->α1->α2->Prop}{Of:Nat->α0->α1->α2->List OE}{Gf:Nat->α0->α1->α2->jZ}(h0: ∀x0 x1 x2,h3 0 x0 x1 x2->LG E Q c (Of 0 x0 x1 x2) (Gf 0 x0 x1 x2))(h: ∀n,(∀x0 x1 x2,h3 n x0 x1 x2->LG E Q c (Of n x0 x1 x2) (Gf n x0 x1 x2))-> ∀x0 x1 x2,h3 (n+1) x0 x1 x2->LG E Q c (Of (n+1) x0 x1 x2) (Gf (n+1) x0 x1 x2)): ∀n,∀x0 x1 x2,h3 n x0 x1 x2->LG E Q c (Of n x0 x1 x2) (Gf n x0 x1 x2)
 |0=>h0
 |n+1=>h n (HQ h0 h n)
def I0{x y:Code}{h3:α0->α1->α2->Prop}{Of:α0->α1->α2->List OE}{Gf:α0->α1->α2->jZ}(hK: ∀x0 x1 x2,h3 x0 x1 x2->CG E Q y (Of x0 x1 x2) (Gf x0 x1 x2))(h:(∀x0 x1 x2,h3 x0 x1 x2->AT E (Exit.then (y.wpIn (fw E.r) 0 E.P Q) Q) .normal (Of x0 x1 x2) (Gf x0 x1 x2))->CG E (Exit.then (y.wpIn (fw E.r) 0 E.P Q) Q) x O G):CG E Q (.seq x y) O G:=aI (h (fun x0 x1 x2=>fun hz=>hK x0 x1 x2 hz))
def HS{h3:Nat->α0->α1->α2->α3->Prop}{Of:α0->α1->α2->α3->List OE}{Gf:α0->α1->α2->α3->jZ}(h0: ∀x0 x1 x2 x3,h3 0 x0 x1 x2 x3->False)(h: ∀n,(∀x0 x1 x2 x3,h3 n x0 x1 x2 x3->LG E Q c (Of x0 x1 x2 x3) (Gf x0 x1 x2 x3))-> ∀x0 x1 x2 x3,h3 (n+1) x0 x1 x2 x3->LG E Q c (Of x0 x1 x2 x3) (Gf x0 x1 x2 x3)): ∀n,∀x0 x1 x2 x3,h3 n x0 x1 x2 x3->LG E Q c (Of x0 x1 x2 x3) (Gf x0 x1 x2 x3)
 |0=>fun x0 x1 x2 x3 hz=>(h0 x0 x1 x2 x3 hz).elim
 |n+1=>h n (HS h0 h n)
def rf{h3:List β->α0->α1->α2->α3->Prop}{Of:List β->α0->α1->α2->α3->List OE}{Gf:List β->α0->α1->α2->α3->jZ}(h0: ∀x0 x1 x2 x3,h3 [] x0 x1 x2 x3->LG E Q c (Of [] x0 x1 x2 x3) (Gf [] x0 x1 x2 x3))(h: ∀b l,(∀x0 x1 x2 x3,h3 l x0 x1 x2 x3->LG E Q c (Of l x0 x1 x2 x3) (Gf l x0 x1 x2 x3))-> ∀x0 x1 x2 x3,h3 (b::l) x0 x1 x2 x3->LG E Q c (Of (b::l) x0 x1 x2 x3) (Gf (b::l) x0 x1 x2 x3)): ∀l,∀x0 x1 x2 x3,h3 l x0 x1 x2 x3->LG E Q c (Of l x0 x1 x2 x3) (Gf l x0 x1 x2 x3)
 |[]=>h0
 |b::l=>h b l (rf h0 h l)
def HP{h3:Nat->α0->α1->α2->α3->Prop}{Of:Nat->α0->α1->α2->α3->List OE}{Gf:Nat->α0->α1->α2->α3->jZ}(h0: ∀x0 x1 x2 x3,h3 0 x0 x1 x2 x3->LG E Q c (Of 0 x0 x1 x2 x3) (Gf 0 x0 x1 x2 x3))(h: ∀n,(∀x0 x1 x2 x3,h3 n x0 x1 x2 x3->LG E Q c (Of n x0 x1 x2 x3) (Gf n x0 x1 x2 x3))-> ∀x0 x1 x2 x3,h3 (n+1) x0 x1 x2 x3->LG E Q c (Of (n+1) x0 x1 x2 x3) (Gf (n+1) x0 x1 x2 x3)): ∀n,∀x0 x1 x2 x3,h3 n x0 x1 x2 x3->LG E Q c (Of n x0 x1 x2 x3) (Gf n x0 x1 x2 x3)
 |0=>h0
 |n+1=>h n (HP h0 h n)
def Cu{id:Nat}{h3:α0->α1->α2->α3->Prop}{Of:α0->α1->α2->α3->List OE}{Gf:α0->α1->α2->α3->jZ}(hK: ∀x0 x1 x2 x3,h3 x0 x1 x2 x3->AT E Q .normal (Of x0 x1 x2 x3) (Gf x0 x1 x2 x3))(h:(∀x0 x1 x2 x3,h3 x0 x1 x2 x3->AT E Q .normal (Of x0 x1 x2 x3) (Gf x0 x1 x2 x3))->CG E (Exit.inBlock id Q) c O G):CG E Q (.block id c) O G:=av (h hK)
def m8{h3:List β->α0->α1->α2->α3->α4->Prop}{Of:List β->α0->α1->α2->α3->α4->List OE}{Gf:List β->α0->α1->α2->α3->α4->jZ}(h0: ∀x0 x1 x2 x3 x4,h3 [] x0 x1 x2 x3 x4->LG E Q c (Of [] x0 x1 x2 x3 x4) (Gf [] x0 x1 x2 x3 x4))(h: ∀b l,(∀x0 x1 x2 x3 x4,h3 l x0 x1 x2 x3 x4->LG E Q c (Of l x0 x1 x2 x3 x4) (Gf l x0 x1 x2 x3 x4))-> ∀x0 x1 x2 x3 x4,h3 (b::l) x0 x1 x2 x3 x4->LG E Q c (Of (b::l) x0 x1 x2 x3 x4) (Gf (b::l) x0 x1 x2 x3 x4)): ∀l,∀x0 x1 x2 x3 x4,h3 l x0 x1 x2 x3 x4->LG E Q c (Of l x0 x1 x2 x3 x4) (Gf l x0 x1 x2 x3 x4)
 |[]=>h0
 |b::l=>h b l (m8 h0 h l)
def HR{h3:Nat->α0->α1->α2->α3->α4->α5->Prop}(h0: ∀x0 x1 x2 x3 x4 x5,h3 0 x0 x1 x2 x3 x4 x5->False)(h: ∀n,(∀x0 x1 x2 x3 x4 x5,h3 n x0 x1 x2 x3 x4 x5->LG E Q c (Of x0 x1 x2 x3 x4 x5) (Gf x0 x1 x2 x3 x4 x5))-> ∀x0 x1 x2 x3 x4 x5,h3 (n+1) x0 x1 x2 x3 x4 x5->LG E Q c (Of x0 x1 x2 x3 x4 x5) (Gf x0 x1 x2 x3 x4 x5)): ∀n,∀x0 x1 x2 x3 x4 x5,h3 n x0 x1 x2 x3 x4 x5->LG E Q c (Of x0 x1 x2 x3 x4 x5) (Gf x0 x1 x2 x3 x4 x5)
 |0=>fun x0 x1 x2 x3 x4 x5 hz=>(h0 x0 x1 x2 x3 x4 x5 hz).elim
 |n+1=>h n (HR h0 h n)
def Fn{h3:List β->α0->α1->α2->α3->α4->α5->Prop}{Of:List β->α0->α1->α2->α3->α4->α5->List OE}{Gf:List β->α0->α1->α2->α3->α4->α5->jZ}(h0: ∀x0 x1 x2 x3 x4 x5,h3 [] x0 x1 x2 x3 x4 x5->LG E Q c (Of [] x0 x1 x2 x3 x4 x5) (Gf [] x0 x1 x2 x3 x4 x5))(h: ∀b l,(∀x0 x1 x2 x3 x4 x5,h3 l x0 x1 x2 x3 x4 x5->LG E Q c (Of l x0 x1 x2 x3 x4 x5) (Gf l x0 x1 x2 x3 x4 x5))-> ∀x0 x1 x2 x3 x4 x5,h3 (b::l) x0 x1 x2 x3 x4 x5->LG E Q c (Of (b::l) x0 x1 x2 x3 x4 x5) (Gf (b::l) x0 x1 x2 x3 x4 x5)): ∀l,∀x0 x1 x2 x3 x4 x5,h3 l x0 x1 x2 x3 x4 x5->LG E Q c (Of l x0 x1 x2 x3 x4 x5) (Gf l x0 x1 x2 x3 x4 x5)
 |[]=>h0
 |b::l=>h b l (Fn h0 h l)
def I4{id:Nat}{h3:α0->α1->α2->α3->α4->α5->Prop}(hK: ∀x0 x1 x2 x3 x4 x5,h3 x0 x1 x2 x3 x4 x5->AT E Q .normal (Of x0 x1 x2 x3 x4 x5) (Gf x0 x1 x2 x3 x4 x5))(h:(∀x0 x1 x2 x3 x4 x5,h3 x0 x1 x2 x3 x4 x5->AT E Q .normal (Of x0 x1 x2 x3 x4 x5) (Gf x0 x1 x2 x3 x4 x5))->CG E (Exit.inBlock id Q) c O G):CG E Q (.block id c) O G:=av (h hK)
def IZ{x y:Code}{h3:α0->α1->α2->α3->α4->α5->Prop}(hK: ∀x0 x1 x2 x3 x4 x5,h3 x0 x1 x2 x3 x4 x5->CG E Q y (Of x0 x1 x2 x3 x4 x5) (Gf x0 x1 x2 x3 x4 x5))(h:(∀x0 x1 x2 x3 x4 x5,h3 x0 x1 x2 x3 x4 x5->AT E (Exit.then (y.wpIn (fw E.r) 0 E.P Q) Q) .normal (Of x0 x1 x2 x3 x4 x5) (Gf x0 x1 x2 x3 x4 x5))->CG E (Exit.then (y.wpIn (fw E.r) 0 E.P Q) Q) x O G):CG E Q (.seq x y) O G:=aI (h (fun x0 x1 x2 x3 x4 x5=>fun hz=>hK x0 x1 x2 x3 x4 x5 hz))
def Fm{h3:List β->α0->α1->α2->α3->α4->α5->α6->Prop}{Of:List β->α0->α1->α2->α3->α4->α5->α6->List OE}{Gf:List β->α0->α1->α2->α3->α4->α5->α6->jZ}(h0: ∀x0 x1 x2 x3 x4 x5 x6,h3 [] x0 x1 x2 x3 x4 x5 x6->LG E Q c (Of [] x0 x1 x2 x3 x4 x5 x6) (Gf [] x0 x1 x2 x3 x4 x5 x6))(h: ∀b l,(∀x0 x1 x2 x3 x4 x5 x6,h3 l x0 x1 x2 x3 x4 x5 x6->LG E Q c (Of l x0 x1 x2 x3 x4 x5 x6) (Gf l x0 x1 x2 x3 x4 x5 x6))-> ∀x0 x1 x2 x3 x4 x5 x6,h3 (b::l) x0 x1 x2 x3 x4 x5 x6->LG E Q c (Of (b::l) x0 x1 x2 x3 x4 x5 x6) (Gf (b::l) x0 x1 x2 x3 x4 x5 x6)): ∀l,∀x0 x1 x2 x3 x4 x5 x6,h3 l x0 x1 x2 x3 x4 x5 x6->LG E Q c (Of l x0 x1 x2 x3 x4 x5 x6) (Gf l x0 x1 x2 x3 x4 x5 x6)
 |[]=>h0
 |b::l=>h b l (Fm h0 h l)
def IY{x y:Code}{h3:α0->α1->α2->α3->α4->α5->α6->Prop}{Of:α0->α1->α2->α3->α4->α5->α6->List OE}{Gf:α0->α1->α2->α3->α4->α5->α6->jZ}(hK: ∀x0 x1 x2 x3 x4 x5 x6,h3 x0 x1 x2 x3 x4 x5 x6->CG E Q y (Of x0 x1 x2 x3 x4 x5 x6) (Gf x0 x1 x2 x3 x4 x5 x6))(h:(∀x0 x1 x2 x3 x4 x5 x6,h3 x0 x1 x2 x3 x4 x5 x6->AT E (Exit.then (y.wpIn (fw E.r) 0 E.P Q) Q) .normal (Of x0 x1 x2 x3 x4 x5 x6) (Gf x0 x1 x2 x3 x4 x5 x6))->CG E (Exit.then (y.wpIn (fw E.r) 0 E.P Q) Q) x O G):CG E Q (.seq x y) O G:=aI (h (fun x0 x1 x2 x3 x4 x5 x6=>fun hz=>hK x0 x1 x2 x3 x4 x5 x6 hz))
def A5{α7:Type}{h3:List β->α0->α1->α2->α3->α4->α5->α6->α7->Prop}{Of:List β->α0->α1->α2->α3->α4->α5->α6->α7->List OE}{Gf:List β->α0->α1->α2->α3->α4->α5->α6->α7->jZ}(h0: ∀x0 x1 x2 x3 x4 x5 x6 x7,h3 [] x0 x1 x2 x3 x4 x5 x6 x7->LG E Q c (Of [] x0 x1 x2 x3 x4 x5 x6 x7) (Gf [] x0 x1 x2 x3 x4 x5 x6 x7))(h: ∀b l,(∀x0 x1 x2 x3 x4 x5 x6 x7,h3 l x0 x1 x2 x3 x4 x5 x6 x7->LG E Q c (Of l x0 x1 x2 x3 x4 x5 x6 x7) (Gf l x0 x1 x2 x3 x4 x5 x6 x7))-> ∀x0 x1 x2 x3 x4 x5 x6 x7,h3 (b::l) x0 x1 x2 x3 x4 x5 x6 x7->LG E Q c (Of (b::l) x0 x1 x2 x3 x4 x5 x6 x7) (Gf (b::l) x0 x1 x2 x3 x4 x5 x6 x7)): ∀l,∀x0 x1 x2 x3 x4 x5 x6 x7,h3 l x0 x1 x2 x3 x4 x5 x6 x7->LG E Q c (Of l x0 x1 x2 x3 x4 x5 x6 x7) (Gf l x0 x1 x2 x3 x4 x5 x6 x7)
 |[]=>h0
 |b::l=>h b l (A5 h0 h l)
end
def bs{α:Type _}{β:Type _}{x:Option α}{k:α->Option β}{r:β}(h:x.bind k=some r): ∃y,x=some y/\k y=some r:=by
 cases x with
 |none=>cases h
 |some y=>exact⟨y,rfl,h⟩
def ct{β:Type _}{x y:Option β}{r:β}(h:(if b=true then x else y)=some r)(V:b=true):x=some r:=by rwa [bE V]at h
def cf{β:Type _}{x y:Option β}{r:β}(h:(if b=true then x else y)=some r)(V:b=false):y=some r:=by rwa [bn (by rw [V];decide)]at h
def so{β:Type _}{x r:β}(h:some x=some r):x=r:=by simpa using h
def og [Inhabited α]{x:Option α}{k:α->Option β}{d:Option β}{r:β}(h:(if b=true then x.bind k else d)=some r): ∃y,(b=true->x=some y/\k y=some r)/\(b=false->d=some r):=by
 cases b with
 |true=>obtain⟨y,Y,J⟩:=bs (ct h rfl);exact⟨y,fun _=>⟨Y,J⟩,fun e=>(by cases e)⟩
 |false=>exact⟨default,fun e=>(by cases e),fun _=>cf h rfl⟩

def cx{α β:Type}(p:Rp α)(q:Rp β):Rp (α×β) where
 sz:=p.sz+q.sz
 agg:=true
 rc:=fun S cs x=> ∃a b,cs=a++b/\p.rc S a x.1/\q.rc S b x.2
 mono:=fun h ⟨a,b,e,Y,J⟩=>⟨a,b,e,p.mono h Y,q.mono h J⟩
 len:=fun⟨a,b,e,Y,J⟩=>by rw [e,jO,p.len Y,q.len J]
 one:=fun⟨a,b,e,Y,J⟩ c hc=>by
  rw [e]at hc
  rcases p9.1 hc with h|h
  ·exact p.one Y c h
  ·exact q.one J c h
 sc:=fun h=>by cases h
def nP{α β:Type}(p:Rp α)(f:β->α):Rp β where
 sz:=p.sz
 agg:=true
 rc:=fun S cs x=>p.rc S cs (f x)
 mono:=fun h k=>p.mono h k
 len:=fun h=>p.len h
 one:=fun h=>p.one h
 sc:=fun h=>by cases h
def di{p:Rp α}{f:β->α}:mj (nP p f) 0 p f:=fun S cs x h=>by
 have h' :p.rc S cs (f x):=h
 have hl:=p.len h'
 rw [t6,<-hl,zr];exact h'
variable{γ:Type}
def fk{p:Rp α}{r:Rp γ}{get:γ->α×β}(h:mj r off (cx p q) get):mj r off p (fun x=>(get x).1):=fun S cs x k=>by
 obtain⟨a,b,e,Y,J⟩:=h S cs x k
 have hl:=p.len Y
 have hl2:=q.len J
 have:(cs.drop off).take p.sz=a:=by
  have e2:=congrArg (List.take p.sz) e
  rw [vI,vh (by show p.sz<=p.sz+q.sz;omega),<-hl,List.take_left]at e2
  rw [<-hl];exact e2
 rw [this];exact Y
def aH{p:Rp α}{r:Rp γ}{off' :Nat}{get:γ->α×β}(h:mj r off (cx p q) get)(ho:off' =off+p.sz):mj r off' q (fun x=>(get x).2):=fun S cs x k=>by
 obtain⟨a,b,e,Y,J⟩:=h S cs x k
 have hl:=p.len Y
 have hl2:=q.len J
 have:(cs.drop off').take q.sz=b:=by
  have e2:=congrArg (List.drop p.sz) e
  rw [zm,p8,<-hl,List.drop_left]at e2
  rw [ho,<-hl,<-e2]
  congr 1
  show q.sz=p.sz+q.sz-a.length
  omega
 rw [this];exact J

section
variable{E:En}
def Nl{op:Op}{ty:TypeId}(hj:(ops[j]?).bind (·.dst)=some gs)(hgs:Nat.blt gs E.N.n=true)(T:bM G gs=some (H rB b))(hd:Nat.blt d E.N.n=true)(h:b=true->bT E O G ⟨some d,op,ty,pos,after,some (j,true)⟩ t)(k:RG E ops Q rest O ((d,lC b t)::G)):RG E ops Q (⟨some d,op,ty,pos,after,some (j,true)⟩::rest) O G:=by
 have e:(true&&(b==true))=b:=by cases b<;>rfl
 exact Du hj hgs (rD T) hd (by rw [e];exact h) (by rw [e];exact k)
def Nm{op:Op}{ty:TypeId}(hj:(ops[j]?).bind (·.dst)=some gs)(hgs:Nat.blt gs E.N.n=true)(T:bM G gs=some (H rB b))(hd:Nat.blt d E.N.n=true)(h:(!b)=true->bT E O G ⟨some d,op,ty,pos,after,some (j,false)⟩ t)(k:RG E ops Q rest O ((d,lC (!b) t)::G)):RG E ops Q (⟨some d,op,ty,pos,after,some (j,false)⟩::rest) O G:=by
 have e:(true&&(b==false))= !b:=by cases b<;>rfl
 exact Du hj hgs (rD T) hd (by rw [e];exact h) (by rw [e];exact k)
def mh{c:Bool}{op:Op}{ty:TypeId}(hj:(ops[j]?).bind (·.dst)=some gs)(hgs:Nat.blt gs E.N.n=true)(T:bM G gs=some (lC c (H rB b)))(hd:Nat.blt d E.N.n=true)(h:(c&&b)=true->bT E O G ⟨some d,op,ty,pos,after,some (j,true)⟩ t)(k:RG E ops Q rest O ((d,lC (c&&b) t)::G)):RG E ops Q (⟨some d,op,ty,pos,after,some (j,true)⟩::rest) O G:=by
 have e:(c&&(b==true))=(c&&b):=by cases b<;>rfl
 exact Du hj hgs (Cc T) hd (by rw [e];exact h) (by rw [e];exact k)
def oA{c:Bool}{op:Op}{ty:TypeId}(hj:(ops[j]?).bind (·.dst)=some gs)(hgs:Nat.blt gs E.N.n=true)(T:bM G gs=some (lC c (H rB b)))(hd:Nat.blt d E.N.n=true)(h:(c&& !b)=true->bT E O G ⟨some d,op,ty,pos,after,some (j,false)⟩ t)(k:RG E ops Q rest O ((d,lC (c&& !b) t)::G)):RG E ops Q (⟨some d,op,ty,pos,after,some (j,false)⟩::rest) O G:=by
 have e:(c&&(b==false))=(c&& !b):=by cases b<;>rfl
 exact Du hj hgs (Cc T) hd (by rw [e];exact h) (by rw [e];exact k)
def cz{l:List Oper}{need:jZ}(T:o.guard=some (j,true))(hj:((l.toArray)[j]?).bind (·.dst)=some gs)(hgs:Nat.blt gs E.N.n=true)(V:bM need gs=some (H rB b))(h:b=true->bT E O need o t):bQ E O l.toArray need o (lC b t):=by
 have e:(true&&(b==true))=b:=by cases b<;>rfl
 have:=yV (t:=t) T hj hgs (rD (E:=E) V) (by rw [e];exact h)
 rwa [e]at this
def mi{l:List Oper}{need:jZ}(T:o.guard=some (j,false))(hj:((l.toArray)[j]?).bind (·.dst)=some gs)(hgs:Nat.blt gs E.N.n=true)(V:bM need gs=some (H rB b))(h:(!b)=true->bT E O need o t):bQ E O l.toArray need o (lC (!b) t):=by
 have e:(true&&(b==false))= !b:=by cases b<;>rfl
 have:=yV (t:=t) T hj hgs (rD (E:=E) V) (by rw [e];exact h)
 rwa [e]at this
def Dq{a:Bool}(h:a=true)(k:b=true):(a&&b)=true:=by rw [h,k];rfl
def CY{a:Bool}(h:a=false):(!a)=true:=by rw [h];rfl
def xw{c:Operand}{x y:Code}(V:aF E.N G c (H rB b))(h:b=true)(I:CG E Q x O G):CG E Q (.cond c x y) O G:=pw V (fun _=>I) (fun e=>by rw [h]at e;cases e)
def xx{c:Operand}{x y:Code}(V:aF E.N G c (H rB b))(h:b=false)(hy:CG E Q y O G):CG E Q (.cond c x y) O G:=pw V (fun e=>by rw [h]at e;cases e) (fun _=>hy)
end
def RJ [Inhabited α]{x:Option α}{k:α->Option β}{r:β}(h:b=true->x.bind k=some r): ∃y,b=true->x=some y/\k y=some r:=by
 cases b with
 |true=>obtain⟨y,Y,J⟩:=bs (h rfl);exact⟨y,fun _=>⟨Y,J⟩⟩
 |false=>exact⟨default,fun e=>(by cases e)⟩
section
variable{E:En}{ty:TypeId}
def qW{c:Operand}{q:Bool}(hc:aF E.N G c (H rB b))(I:b=true->aF E.N G x (H rB q)):bT E O G ⟨dst,.pick c x (.const (.bool false)),ty,pos,after,g⟩ (H rB (b&&q)):=by
 refine zi hc (fun h=>?_) (fun h=>?_)
 ·subst h;exact I rfl
 ·subst h;exact hB
def uZ{c:Operand}{q:Bool}(hc:aF E.N G c (H rB b))(I:b=false->aF E.N G x (H rB q)):bT E O G ⟨dst,.pick c (.const (.bool true)) x,ty,pos,after,g⟩ (H rB (b||q)):=by
 refine zi hc (fun h=>?_) (fun h=>?_)
 ·subst h;exact hB
 ·subst h;exact I rfl
def dS{c:Operand}{q t:Bool}(hc:aF E.N G c (H rB b))(I:b=true->aF E.N G x (H rB q))(e1:b=true->some q=some t)(e0:b=false->some false=some t):bT E O G ⟨dst,.pick c x (.const (.bool false)),ty,pos,after,g⟩ (H rB t):=by
 refine zi hc (fun h=>?_) (fun h=>?_)
 ·rw [<-so (e1 h)];exact I h
 ·rw [<-so (e0 h)];exact hB
def qV{c:Operand}{q t:Bool}(hc:aF E.N G c (H rB b))(I:b=false->aF E.N G x (H rB q))(e1:(!b)=true->some q=some t)(e0:(!b)=false->some true=some t):bT E O G ⟨dst,.pick c (.const (.bool true)) x,ty,pos,after,g⟩ (H rB t):=by
 refine zi hc (fun h=>?_) (fun h=>?_)
 ·rw [<-so (e0 (by rw [h];rfl))];exact hB
 ·rw [<-so (e1 (by rw [h];rfl))];exact I h
def Gd(hi:ts[i]? =some t)(I:aF E.N G x (tT ts)):bT E O G ⟨dst,.extract x i,ty,pos,after,g⟩ t:=
 .of_pure fun a w S _ _ X=>by
  obtain⟨vs,Y,J⟩:=I S a X
  obtain⟨v,Z,h4⟩:=J.at_ i t hi
  exact⟨v,by simp [execOp,Y,Instr.extract,Z],h4⟩
def ru{k:IntKind}{m n:Int}(I:aF E.N G x (H (rI k) m))(hy:aF E.N G y (H (rI k) n)):bT E O G ⟨dst,.call ⟨.builtin .min,#[x,y],ats⟩,ty,pos,after,g⟩ (H (rI k) (min m n)):=
 .of_pure fun a w S _ _ X=>by
  have Y:a.eval x= .int k m:=fq.1 (I S a X)
  have J:a.eval y= .int k n:=fq.1 (hy S a X)
  refine⟨.int k (if n<m then n else m),by simp [execOp,resolve,invoke,builtin,Builtin.min_,Builtin.min2,Y,J],fq.2 ?_⟩
  congr 1
  rw [Int.min_def]
  split<;>split<;>omega

def kK(P:Program){α β:Type}(args:α->List Ty)(res:β->Ty)(f:α->Option β):Ty where
 p:=fun S v=> ∃fid cap,v= .func (.func fid) #[] cap/\al P fid=true/\ ∀x y,f x=some y-> ∀w S' vs,SH.le S S' ->jA w S' ->tX S' (args x) vs->
  Calls P fid (vs.toArray++cap) w fun e w' => ∃v S'',e= .returned v/\gU oW w S' w' S'' /\jA w' S'' /\(res y).p S'' v
 mono:=fun h ⟨f,cap,e,hc,k⟩=>⟨f,cap,e,hc,fun x y hxy w S' vs hle=>k x y hxy w S' vs (SH.le_trans h hle)⟩
def Mb{N:Fr}{P:Program}{f:α->Option β}{fid:FuncId}(hc:al P fid=true)(hs: ∀x y,f x=some y->cK P fid (args x) (res y)):aF N G (.func fid) (kK P args res f):=fun S a _=>
 ⟨fid,#[],rfl,hc,fun x y h w S' vs _ hsat hv=>by simpa using hs x y h w S' vs hsat hv⟩
def tX.append: ∀{ts us:List Ty} {vs ws:List Value},tX S ts vs->tX S us ws->tX S (ts++us) (vs++ws)
 |[],_,[],_,_,h=>h
 |_::_,_,_::_,_,⟨Y,J⟩,h=>⟨Y,tX.append J h⟩
def rx{f:α->Option β}{fid:FuncId}{caps:List Operand}{cts:List Ty}(hc:al E.P fid=true)(hcap:il E.N G caps cts)(hs: ∀x y,f x=some y->cK E.P fid (args x++cts) (res y)):bT E O G ⟨dst,.makeFunc (.func fid) #[] caps.toArray,ty,pos,after,g⟩ (kK E.P args res f):=
 .of_pure fun a w S _ _ X=>by
  refine⟨.func (.func fid) #[] (caps.map a.eval).toArray,by simp [execOp,Instr.makeFunc],fid,_,rfl,hc,fun x y h w' S' vs hle hsat hv=>?_⟩
  have hcv:=(hcap.tys X).mono hle
  simpa using hs x y h w' S' _ hsat (hv.append hcv)
def mZ{f:α->Option β}{fo:Operand}{x:α}{y:β}{xs:List Operand}(hfo:aF E.N G fo (kK E.P args res f))(h:f x=some y)(I:il E.N G xs (args x)):
  bT E O G ⟨dst,.call ⟨.value fo,xs.toArray,ats⟩,ty,pos,after,g⟩ (res y):=fun a w S hS _ hF=>by
 obtain⟨fid,cap,e,hc,hs⟩:=hfo S a hF
 have hr:(execOp a.eval ⟨dst,.call ⟨.value fo,xs.toArray,ats⟩,ty,pos,after,g⟩).run E.P w= .ok (.enter fid ((xs.map a.eval).toArray++cap)) w:=by
  simp [execOp,resolve,e,Deferred.ofValue,invoke,fE hc]
 refine⟨fun c h=>(by cases h),?_⟩
 rw [hr]
 exact(hs x y h w S _ (SH.le_refl _) hS (I.tys hF)).mono fun e w' ⟨v,S',he,Y,J,Z⟩=>⟨v,he,v,S',rfl,Y,J,Z⟩
end
def cK.of{P:Program}{N:Nat}(X:P.funcs[f]? =some fn)(V:fn.body=some c)(hN:fn.ntmps=N)(hn:Nat.ble ts.length N=true)(h: ∀w0 S0,CG ⟨P,⟨N,[]⟩,oW,w0,S0,none⟩ (bodyPost P fn (Fb ⟨P,⟨N,[]⟩,oW,w0,S0,none⟩ t)) c [] (sO 0 ts)):cK P f ts t:=by
 subst hN
 exact Dt X V (pz hn) h
def nn{α:Type _}{r:α}(h:(none:Option α)=some r):False:=by cases h
def tK{N:Fr}:aF N G (.const (.slice none 0 0)) (tV (aL none 0 0)):=fun _ _ _=>rfl
def gi:Nat:=2^64
section
variable{E:En}{ty:TypeId}
def F8(l:Option Nat)(cap n:Nat)(h:l=none->n=0): ∃a c,aL l cap n= .slice a n c:=by
 cases l with
 |none=>rw [h rfl];exact⟨none,0,rfl⟩
 |some b=>exact⟨_,cap,rfl⟩
def fj{r:Rp α}{n:Nat}{t:TypeId}(D:E.P.underlying t=some (.slice e))(hm:jS mm r hg l cap xs∈O)(I:aF E.N G x (tV (aL l cap n)))(hn:n=xs.length:=by rfl):
  bT E O G ⟨dst,.call ⟨.builtin .len,#[x],#[t]⟩,ty,pos,after,g⟩ (H (rI .i64) (n:Int)):=
 .of_pure fun a w S _ ho X=>by
  have Y:a.eval x=aL l cap n:=I S a X
  have J:=(ho.mem _ hm).1
  obtain⟨ad,c,Z⟩:=F8 l cap n (fun e=>by subst e;obtain⟨_,h4,_⟩:=J;rw [hn];exact h4.1)
  refine⟨.int .i64 n,?_,fq.2 rfl⟩
  simp [execOp,resolve,invoke,builtin,Builtin.len_,jB D,Y,Z,goInt]
end

structure Jg(P:Program){α:Type} [DecidableEq α](t:TypeId)(r:Rp α):Prop where
 guard:P.eqGuardType P.depth t=false
 run: ∀(S:SH) (cs ds:List Value) (x y:α) (d:Nat) (w:World),r.rc S cs x->r.rc S ds y->(Op.equalIn (d+20) t (r.val cs) (r.val ds)).run P w= .ok (decide (x=y)) w
section
variable{E:En}{ty:TypeId}
def yP{P:Program}{t:TypeId}(h:P.eqGuardType P.depth t=false){op:BinOp}{x y:Operand}{u v:Array Value}{w:World}:(eqGuard op t x y (.agg u) (.agg v)).run P w= .ok () w:=by
 unfold eqGuard
 cases op<;>first|rfl|simp [h]
def qe{r:Rp α}(h:r.agg=true)(cs:List Value):r.val cs= .agg cs.toArray:=by unfold Rp.val;rw [bE h]
def CX [DecidableEq α]{r:Rp α}{m n:α}(he:Jg E.P xt r)(I:aF E.N G x (H r m))(hy:aF E.N G y (H r n))(ha:r.agg=true:=by rfl):bT E O G ⟨dst,.binOp .eql xt x y yt,ty,pos,after,g⟩ (H rB (decide (m=n))):=
 .of_pure fun a w S _ _ X=>by
  obtain⟨cs,Y,J⟩:=I S a X
  obtain⟨ds,Z,h4⟩:=hy S a X
  refine⟨.bool (decide (m=n)),?_,iC.2 rfl⟩
  have hr:=he.run S cs ds m n 9980 w J h4
  have T:= @yP E.P xt he.guard .eql x y cs.toArray ds.toArray w
  rw [qe ha,qe ha]at hr
  simp only [execOp,Y,Z,qe ha,sW,T,uc,binOp,Op.equal,Op.maxDepth]
  rw [show(10000:Nat)=9980+20 from rfl,hr]
  simp
def wW [DecidableEq α]{r:Rp α}{m n:α}(he:Jg E.P xt r)(I:aF E.N G x (H r m))(hy:aF E.N G y (H r n))(ha:r.agg=true:=by rfl):bT E O G ⟨dst,.binOp .neq xt x y yt,ty,pos,after,g⟩ (H rB (!decide (m=n))):=
 .of_pure fun a w S _ _ X=>by
  obtain⟨cs,Y,J⟩:=I S a X
  obtain⟨ds,Z,h4⟩:=hy S a X
  refine⟨.bool (!decide (m=n)),?_,iC.2 rfl⟩
  have hr:=he.run S cs ds m n 9980 w J h4
  have T:= @yP E.P xt he.guard .neq x y cs.toArray ds.toArray w
  rw [qe ha,qe ha]at hr
  simp only [execOp,Y,Z,qe ha,sW,T,uc,binOp,Op.equal,Op.maxDepth]
  rw [show(10000:Nat)=9980+20 from rfl,hr]
  simp
end

def rt{base:Nat}{B:Nat->Prop}(h:dg base B w S O)(k:gU oW w S w' S'){e:OE}(he:e.p w' S')(hn: ∀b,e.fp b->w.heap.size<=b)(V:base<=w.heap.size:=by first|assumption|exact St.base_le (by assumption)):dg base B w' S' (e::O):=
 ⟨⟨he,fun b hb' => .inl (xy V (hn b hb'))⟩,fun f X b hb' hfb=>by
  have:=f.here (dg.mem h f X).1 b hfb
  have:=hn b hb'
  omega,h.ext0 k⟩
def gP(P:Program)(f:FuncId)(ts:List Ty)(mm:Bool){α:Type}(r:Rp α)(hg:TypeId)(xs:List α):Prop:=
 ∀w S vs,jA w S->tX S ts vs->Calls P f vs.toArray w fun e w' => ∃l cap S',e= .returned (aL l cap xs.length)/\gU oW w S w' S' /\jA w' S' /\(jS mm r hg l cap xs).holds w.heap.size oW w' S'
def FS{r:Rp α}(h:(jS mm r hg l cap xs).holds w.heap.size oW w' S')(he:gU oW w S w' S')(hs:jA w' S'):
  ∃S'',gU oW w S w' S'' /\jA w' S'' /\(H (gJ r) xs).p S'' (aL l cap xs.length):=by
 have st:St ⟨default,⟨0,[]⟩,oW,w,S,none⟩ [jS mm r hg l cap xs] [] ⟨#[],[]⟩ w' S' :=⟨he,hs,⟨h,fun _ X=>(by cases X),trivial⟩,⟨rfl,rfl,fun _ _ h=>(by simp [bM]at h)⟩⟩
 obtain⟨S'',Y,J⟩:=st.settle
 exact⟨S'',Y.ext,Y.sat,J⟩
def gP.spec{P:Program}{r:Rp α}(h:gP P f ts mm r hg xs):cK P f ts (H (gJ r) xs):=fun w S vs hs hv=>
 (h w S vs hs hv).mono fun e w' ⟨l,cap,S',he,Y,J,Z⟩=>by
  obtain⟨S'',h4,h5,h6⟩:=FS Z Y J
  exact⟨_,S'',he,h4,h5,h6⟩
def QN(E:En)(mm:Bool){α:Type}(r:Rp α)(hg:TypeId)(xs:List α):Ending->World->Prop:=fun e w' => ∃l cap S',e= .returned (aL l cap xs.length)/\gU E.B E.w0 E.S0 w' S' /\jA w' S' /\(jS mm r hg l cap xs).holds E.w0.heap.size E.B w' S'
def gP.of{P:Program}{N:Nat}{r:Rp α}(X:P.funcs[f]? =some fn)(V:fn.body=some c)(hN:fn.ntmps=N)(hn:Nat.ble ts.length N=true)(h: ∀w0 S0,CG ⟨P,⟨N,[]⟩,oW,w0,S0,none⟩ (bodyPost P fn (QN ⟨P,⟨N,[]⟩,oW,w0,S0,none⟩ mm r hg xs)) c [] (sO 0 ts)):gP P f ts mm r hg xs:=by
 subst hN
 intro w S vs hs hv
 exact mf.1 (callsIn_of_wp (F:=fw none) (n:=0) X V trivial (h w S _ w S ⟨gU.refl _ _ _,hs,trivial,o3 hv _ (pz hn)⟩))
section
variable{E:En}
def hG{P:Program}{N:Nat}{B:Nat->Prop}{w0:World}{S0:SH}{r:Rp α}{n:Nat}(hr:fn.results= #[.tmp k])(hk:bM G k=some (tV (aL l cap n)))(hn:n=xs.length:=by rfl):
  AT ⟨P,⟨N,[]⟩,B,w0,S0,none⟩ (bodyPost P fn (QN ⟨P,⟨N,[]⟩,B,w0,S0,none⟩ mm r hg xs)) .ret (jS mm r hg l cap xs::O) G:=fun a w S st=>by
 subst hn
 have hv:a.tmps.getD k undef=aL l cap xs.length:=st.facts.at_ k _ hk
 exact⟨st.facts.defers,_,nc P fn k hr _ _,l,cap,S,by rw [hv],st.ext,st.sat,st.own.1⟩
section
variable{ty:TypeId}
def IW{xs:List Operand}{r:Rp α}{u:Nat->Option Nat->Ty}(hc:al E.P f=true)(hs:gP E.P f ts mm r hg ys)(I:il E.N G xs ts)(hd:Nat.blt d E.N.n=true)(hu: ∀l cap w0 S,(jS mm r hg l cap ys).p w0 S->(u cap l).p S (aL l cap ys.length))(k: ∀l cap,RG E ops Q rest (jS mm r hg l cap ys::O) ((d,u cap l)::G)):
  RG E ops Q (⟨some d,.call ⟨.value (.func f),xs.toArray,ats⟩,ty,pos,after,none⟩::rest) O G:= .of rfl fun a w S st=>by
 have hr:(execOp a.eval ⟨some d,.call ⟨.value (.func f),xs.toArray,ats⟩,ty,pos,after,none⟩).run E.P w= .ok (.enter f (xs.map a.eval).toArray) w:=by
  simp [execOp,resolve,Act.eval,Deferred.ofValue,invoke,fE hc]
 refine⟨fun c h=>(by cases h),?_⟩
 rw [hr]
 refine(hs w S _ st.sat (I.tys st.facts)).mono fun e w' ⟨l,cap,S',he,Y,J,Z⟩=>⟨_,he,?_⟩;refine k l cap _ _ S' ⟨st.ext.step0 Y,J,rt st.own Y Z.1 (fun b V=>(Z.2 b V).resolve_right id) st.base_le,(st.facts.mono Y.keep).put hd (hu l cap w' S' Z.1)⟩
def K6{xs:List Operand}{r:Rp α}(hc:al E.P f=true)(hs:gP E.P f ts false r hg ys)(I:il E.N G xs ts)(hd:Nat.blt d E.N.n=true)(k: ∀l cap,RG E ops Q rest (fD r hg l cap ys::O) ((d,tV (aL l cap ys.length))::G)):
  RG E ops Q (⟨some d,.call ⟨.value (.func f),xs.toArray,ats⟩,ty,pos,after,none⟩::rest) O G:=IW (u:=fun cap l=>tV (aL l cap ys.length)) hc hs I hd (fun _ _ _ _ _=>rfl) k
def fC{r:Rp α}{xs:List Operand}{t:TypeId}{n sz:Nat}{agg:Bool}(D:E.P.underlying t=some (.slice hg))(ti:TI E.P hg sz bytes agg z)(hsz:r.sz=sz)(h0:Nat.blt 0 sz=true)(hp:parts=vE 0 xs)(hn:n=ys.length)(V:Nat.ble (n*sz) 16777216=true)(I:il E.N G xs (ys.map (H r)))(hd:Nat.blt d E.N.n=true)(k: ∀l cap,RG E ops Q rest (fD r hg l cap ys::O) ((d,tV (aL l cap ys.length))::G)):
  RG E ops Q (⟨some d,.buildSlice t n parts.toArray,ty,pos,after,none⟩::rest) O G:= .of rfl fun a w S st=>by
 obtain⟨cs,hc,hr⟩:=ur D ti hsz hn V (I.tys st.facts) w
 subst hsz
 subst hp
 have hb' :=pz V
 have h0' :0<r.sz:=by simpa [tM] using h0
 have hnle:n<=n*r.sz:=Nat.le_mul_of_pos_right n h0'
 have hcl:=mw hc
 obtain⟨he,hs',hno⟩:=iy (w:=w) (.cells cs.toArray hg (0,0)) st.sat
 have hrun:(execOp a.eval ⟨some d,.buildSlice t n (vE 0 xs).toArray,ty,pos,after,none⟩).run E.P w= .ok (.value (.slice (some ⟨w.heap.size,0,none⟩) n n)) (w.alloc (.cells cs.toArray hg (0,0))):=by
  simp only [execOp,sW,hr,uc,Sem.run_pure]
 refine⟨fun c h=>(by cases h),?_⟩
 rw [hrun]
 refine k (some w.heap.size) n _ _ S ⟨st.ext.step0 he,hs',rt st.own he ⟨cs,⟨cs.toArray,wF w _,by omega,by simp only [maxLen];omega,by simp [hcl,hn],by simp [<-hcl]⟩,hc,fun b V=>by rw [<-qa V];exact hno⟩ (fun b V=>zu (qa V)) st.base_le,st.facts.put hd ?_⟩
 ·show _=aL _ _ _
  rw [<-hn];rfl
def uM{r:Rp α}{t:TypeId}(D:E.P.underlying t=some (.slice e))(I:aF E.N G x (H (gJ r) xs))(hd:Nat.blt d E.N.n=true)(k: ∀b,(b=true->xs=[])->RG E ops Q rest O ((d,H rB b)::G)):RG E ops Q (⟨some d,.binOp .eql t x (.const (.slice none 0 0)) yt,ty,pos,after,none⟩::rest) O G:= .of rfl fun a w S st=>by
 obtain⟨ad,cap,Y,_,_,J⟩:=lI.1 (I S a st.facts)
 have hrun:(execOp a.eval ⟨some d,.binOp .eql t x (.const (.slice none 0 0)) yt,ty,pos,after,none⟩).run E.P w= .ok (.value (.bool ad.isNone)) w:=by
  have Z:(Op.equal t (.slice ad xs.length cap) (.slice none 0 0)).run E.P w= .ok ad.isNone w:=uU fun d=>by
   cases ad<;>simp [Op.equalIn,jB D]
  have hcn:a.eval (.const (.slice none 0 0))= .slice none 0 0:=rfl
  simp [execOp,Y,hcn,eqGuard,binOp,Z]
 refine⟨fun c h=>(by cases h),?_⟩
 rw [hrun]
 refine k ad.isNone (fun e=>?_) _ _ S (st.step (gU.refl _ _ _) st.sat hd (iC.2 rfl))
 rcases J with J|⟨b,off,c,hg,fr,e1,_⟩
 ·exact J
 ·subst e1;cases e
end
end

def ax(b off:Nat):Value:= .pointer (some ⟨b,off,none⟩)
def bx{α:Type}(r:Rp α)(hg:TypeId)(b:Nat)(x:α):OE where
 fp:=fun k=>k=b
 p:=fun w S=>S b=none/\ ∃c,w.heap[b]? =some (.cells c hg (0,0))/\r.rc S c.toList x
 here:=by
  intro w S h k hk
  subst hk
  obtain⟨Y,c,J,_⟩:=h
  exact(vL.1 J).1
 kept:=by
  intro C w w' S S' h k hC
  obtain⟨Y,c,J,Z⟩:=h
  have hlt:=(vL.1 J).1
  exact⟨by rw [k.old b hlt (hC b rfl)];exact Y,c,by rw [k.heap b hlt (hC b rfl)];exact J,r.mono k.keep Z⟩
def rV:Rp Value where
 sz:=1
 agg:=false
 rc:=fun _ cs v=>cs=[v]/\v.oneCell' =true
 mono:=fun _ h=>h
 len:=fun h=>by rw [h.1];rfl
 one:=fun h c hc=>by rw [h.1]at hc;simp at hc;subst hc;exact h.2
 sc:=fun _=>rfl
def qg{u:Value}:(H rV u).p S v↔v=u/\u.oneCell' =true:=by
 constructor
 ·rintro⟨cs,rfl,Y,J⟩;subst Y;exact⟨rfl,J⟩
 ·rintro⟨rfl,h⟩;exact⟨[v],rfl,rfl,h⟩
def ij{α β:Type}(r:Rp α)(off:Nat)(q:Rp β)(set:α->β->α):Prop:= ∀S cs x ds y,r.rc S cs x->q.rc S ds y->r.rc S (cs.take off++ds++cs.drop (off+q.sz)) (set x y)
section
variable{E:En}{e:Exit}
def St.settleB{r:Rp α}{b:Nat}{x:α}(h:St E (bx r hg b x::O) G a w S)(hk:bM G k=some (tV (ax b 0))): ∃S',St E O ((k,bC r x)::G) a w S' :=by
 obtain⟨⟨hn,cur,Z,h4⟩,_⟩:=h.own.1
 obtain⟨h8,hle,_,_⟩:=s5 h rfl Z (qU _) hn
 have hv:a.tmps.getD k undef=ax b 0:=h.facts.at_ k _ hk
 refine⟨_,h8.cons ⟨b,0,cur,hg,(0,0),hv,by simp [SH.set],?_⟩⟩
 have hl:cur.size=r.sz:=by have:=r.len h4;simpa using this
 have:=r.mono hle h4
 rw [t6,nM (by simp [hl])];exact this
def aD{r:Rp α}{b:Nat}{x:α}(k:Nat)(hk:bM G k=some (tV (ax b 0)))(h:RG E ops Q rest O ((k,bC r x)::G)):RG E ops Q rest (bx r hg b x::O) G:=
 fun a w _ st=>let⟨S',st'⟩:=st.settleB hk;h a w S' st'
def aK{r:Rp α}{b:Nat}{x:α}(k:Nat)(hk:bM G k=some (tV (ax b 0)))(h:AT E Q e O ((k,bC r x)::G)):AT E Q e (bx r hg b x::O) G:=
 fun a w _ st=>let⟨S',st'⟩:=st.settleB hk;h a w S' st'
section
variable{ty:TypeId}
def aA{r:Rp α}{x:α}{sz:Nat}{agg:Bool}(ti:TI E.P hg sz bytes agg z)(I: ∀S,r.rc S z x)(hd:Nat.blt d E.N.n=true)(k: ∀b,RG E ops Q rest (bx r hg b x::O) ((d,tV (ax b 0))::G)):RG E ops Q (⟨some d,.alloc hg,ty,pos,after,none⟩::rest) O G:= .of rfl fun a w S st=>by
 obtain⟨zv,hzr,hzc⟩:=ti.zero w
 obtain⟨he,hs',hno⟩:=iy (w:=w) (.cells z.toArray hg (0,0)) st.sat
 have hrun:(execOp a.eval ⟨some d,.alloc hg,ty,pos,after,none⟩).run E.P w= .ok (.value (ax w.heap.size 0)) (w.alloc (.cells z.toArray hg (0,0))):=by
  simp [execOp,Instr.alloc,hzr,newVar,newRow,hzc,ax]
 refine⟨fun c h=>(by cases h),?_⟩
 rw [hrun]
 exact k w.heap.size _ _ S ⟨st.ext.step0 he,hs',rt st.own he ⟨hno,z.toArray,wF w _,by simpa using I S⟩ (fun b V=>zu V.symm) st.base_le,st.facts.put hd rfl⟩
def rN{r:Rp α}{v:α}(I:aF E.N G x (H r v))(hd:Nat.blt d E.N.n=true)(k: ∀b,RG E ops Q rest (bx r hg b v::O) ((d,tV (ax b 0))::G)):RG E ops Q (⟨some d,.box hg x,ty,pos,after,none⟩::rest) O G:= .of rfl fun a w S st=>by
 obtain⟨cs,hv,hc⟩:=I S a st.facts
 obtain⟨he,hs',hno⟩:=iy (w:=w) (.cells cs.toArray hg (0,0)) st.sat
 have hrun:(execOp a.eval ⟨some d,.box hg x,ty,pos,after,none⟩).run E.P w= .ok (.value (ax w.heap.size 0)) (w.alloc (.cells cs.toArray hg (0,0))):=by
  simp [execOp,Instr.box,newVar,newRow,hv,sx hc,ax]
 refine⟨fun c h=>(by cases h),?_⟩
 rw [hrun]
 exact k w.heap.size _ _ S ⟨st.ext.step0 he,hs',rt st.own he ⟨hno,cs.toArray,wF w _,by simpa using hc⟩ (fun b V=>zu V.symm) st.base_le,st.facts.put hd rfl⟩
def nD{base:Nat}{B:Nat->Prop}{b:Nat}(hs:jA w S)(f f' :OE)(h:dg base B w S (f::O))(X: ∀k,f.fp k↔k=b)(hf' : ∀k,f'.fp k↔k=b)(T:w'.os=w.os/\w'.tape=w.tape/\w'.output=w.output/\w'.heap.size=w.heap.size/\w.drawn<=w'.drawn)(ho: ∀k,k≠b->w'.heap[k]? =w.heap[k]?)(hp:f'.p w' S)(hno:S b=none):gU (fun k=>k=b) w S w' S/\jA w' S/\dg base B w' S (f' ::O):=by
 have hext:gU (fun k=>k=b) w S w' S:=⟨T.1,T.2.1,T.2.2.1,T.2.2.2.2,by omega,fun k _ hk=>ho k hk,SH.le_refl _,fun _ _ _=>rfl⟩
 refine⟨hext,hs.same fun k o hk=>?_,⟨hp,fun k hk=>h.1.2 k ((X k).2 ((hf' k).1 hk))⟩,fun g hgm k hk=>h.2.1 g hgm k ((X k).2 ((hf' k).1 hk)),h.2.2.ext hext fun g hgm k hk hkb=>h.2.1 g hgm k ((X k).2 hkb) hk⟩
 have hne:k≠b:=fun e=>by subst e;rw [hno]at hk;cases hk
 exact ho k hne
def iO{P:Program}{q:Rp α}{sz:Nat}{agg:Bool}(ti:TI P U sz bytes agg z)(hsz:q.sz=sz){ds:List Value}{y:α}(hy:q.rc S ds y){b:Nat}{cur:Array Value}(T:w.heap[b]? =some (.cells cur hg (0,0)))(hfit:off+q.sz<=cur.size):
  ∃w',(storeVar U ⟨b,off,none⟩ (q.val ds)).run P w= .ok () w' /\w'.os=w.os/\w'.tape=w.tape/\w'.output=w.output/\(w'.heap.size=w.heap.size/\w.drawn<=w'.drawn)/\w'.heap[b]? =some (.cells (cur.toList.take off++ds++cur.toList.drop (off+q.sz)).toArray hg (0,0))/\ ∀k,k≠b->w'.heap[k]? =w.heap[k]? :=by
 have hl:=q.len hy
 have hst:=run_storeCells_at P b off hg ds 0 cur w T (by omega) (q.one hy)
 simp only [tZ]at hst
 refine⟨w.setRow b (cur.toList.take off++ds++cur.toList.drop (off+ds.length)).toArray,?_,rfl,rfl,rfl,⟨?_,dr _⟩,?_,fun k hk=>setRow_other w b k _ hk⟩
 ·generalize (cur.toList.take off++ds++cur.toList.drop (off+ds.length)).toArray=hf at hst ⊢
  simp only [storeVar,sW,ti.sizeOf,uc,sx hy,BL,hl,hsz]
  simp only [ne_eq,not_true_eq_false,gE]
  simpa using hst
 ·simp [World.setRow]
 ·rw [setRow_heap w b cur _ hg _ T,<-hl]
def dd{r:Rp α}{set:α->β->α}{x:α}{y:β}{b sz:Nat}{agg:Bool}{p v:Operand}(ti:TI E.P U sz bytes agg z)(hsz:q.sz=sz)(hset:ij r off q set)(hoff:Nat.ble (off+q.sz) r.sz=true)(hp:aF E.N G p (tV (ax b off)))(hv:aF E.N G v (H q y))(k:RG E ops Q rest (bx r hg b (set x y)::O) G):RG E ops Q (⟨none,.store U p v,ty,pos,after,none⟩::rest) (bx r hg b x::O) G:= .of rfl fun a w S st=>by
 have Y:a.eval p=ax b off:=hp S a st.facts
 obtain⟨ds,J,Z⟩:=hv S a st.facts
 obtain⟨⟨hno,cur,h5,h6⟩,_⟩:=st.own.1
 have hl:=r.len h6
 have hoff' :=pz hoff
 obtain⟨w',hr,e1,e2,e3,e4,e5,e6⟩:=iO ti hsz Z h5 (off:=off) (by simp at hl;omega)
 have hrun:(execOp a.eval ⟨none,.store U p v,ty,pos,after,none⟩).run E.P w= .ok .skip w' :=by
  simp [execOp,Y,J,Instr.storeAt,ax,Instr.sureAddr,hr]
 refine⟨fun c h=>(by cases h),?_⟩
 rw [hrun]
 obtain⟨g1,g2,g3⟩:=nD (O:=O) st.sat (bx r hg b x) (bx r hg b (set x y)) st.own (fun _=>sr) (fun _=>sr) ⟨e1,e2,e3,e4.1,e4.2⟩ e6 ⟨hno,_,e5,by simpa using hset S _ _ _ _ h6 Z⟩ hno
 exact k _ _ S ⟨st.ext.step g1 (fun c hc=>st.own.1.2 c hc),g2,g3,st.facts⟩
def ac{r:Rp α}:ij r 0 r (fun _ y=>y):=fun S cs x ds y Y J=>by
 have hl:=r.len Y
 simpa [<-hl] using J
end
section
variable{ty:TypeId}
def Bz{sz b o:Nat}{p:Operand}(X:cP E.P hg i=some (off,sz))(h0:Nat.beq sz 0=false)(hp:aF E.N G p (tV (ax b o))):bT E O G ⟨dst,.fieldAddr hg p i,ty,pos,after,g⟩ (tV (ax b (o+off))):=
 .of_pure fun a w S _ _ hF=>by
  have Y:a.eval p=ax b o:=hp S a hF
  obtain⟨fs,f,e1,e2,e3,e4⟩:=xN X
  have h0' :sz≠0:=fun e=>by subst e;simp at h0
  refine⟨ax b (o+off),?_,rfl⟩
  simp [execOp,Y,ax,Instr.fieldAt,jB e1,e2,Instr.sureAddr,fieldPlace,e4,h0',e3,iI]
def be{r:Rp α}{get:α->β}{x:α}{b sz:Nat}{agg:Bool}{p:Operand}(ti:TI E.P U sz bytes agg z)(hsz:q.sz=sz)(hag:q.agg=agg)(hget:mj r off q get)(hm:bx r hg b x∈O)(hp:aF E.N G p (tV (ax b off))):
  bT E O G ⟨dst,.load U p,ty,pos,after,g⟩ (H q (get x)):=
 .of_pure fun a w S _ ho X=>by
  have Y:a.eval p=ax b off:=hp S a X
  obtain⟨⟨_,cur,h5,h6⟩,_⟩:=ho.mem _ hm
  have h7:=hget S _ _ h6
  refine⟨_,?_,_,rfl,h7⟩
  simp [execOp,Y,ax,Instr.loadAt,Instr.sureAddr,jh ti h5 hsz hag h7]
def bO{r:Rp α}:mj r 0 r (fun x=>x):=fun S cs x h=>by
 have hl:=r.len h
 simpa [<-hl] using h
end
end

def eC{p:Rp α}:ij (cx p q) 0 p (fun x y=>(y,x.2)):=fun S cs x ds y h k=>by
 obtain⟨a,b,e,Y,J⟩:=h
 have hl:=p.len Y
 refine⟨ds,b,?_,k,J⟩
 rw [e,<-hl];simp
def aC{p:Rp α}{s:Rp γ}{off' :Nat}{u:β->γ->β}(h:ij q off s u)(ho:off' =p.sz+off):ij (cx p q) off' s (fun x y=>(x.1,u x.2 y)):=fun S cs x ds y I hy=>by
 obtain⟨a,b,e,Y,J⟩:=I
 have hl:=p.len Y
 refine⟨a,b.take off++ds++b.drop (off+s.sz),?_,Y,h S b x.2 ds y J hy⟩
 rw [e,ho,<-hl,List.take_length_add_append,show a.length+off+s.sz=a.length+(off+s.sz)from by omega,List.drop_length_add_append]
 simp
def cS{p:Rp α}{q:Rp γ}{u:α->γ->α}{f:β->α}{set:β->γ->β}(h:ij p off q u)(X: ∀x y,f (set x y)=u (f x) y):ij (nP p f) off q set:=fun S cs x ds y I hy=>by
 show p.rc S _ (f (set x y))
 rw [X]
 exact h S cs (f x) ds y I hy
def oe(P:Program)(hg:TypeId):Option (List (Nat×Nat)):=
 match P.underlying hg with
 |some (.struct fs)=>fs.toList.mapM fun f=>(P.info? f.type).map fun q=>(f.offset,q.size)
 |_=>none
def Ad{P:Program}: ∀(fs:List Field) (ps:List (Nat×Nat)) (w:World),fs.mapM (fun f=>(P.info? f.type).map fun q=>(f.offset,q.size))=some ps->
  (fs.mapM (fun f=>do pure (f.offset,<-sizeOf f.type):Field->Sem (Nat×Nat))).run P w= .ok ps w
 |[],ps,w,h=>by
  simp at h;subst h
  simp
 |f::fs,ps,w,h=>by
  simp only [List.mapM_cons]at h ⊢
  cases hq:P.info? f.type with
  |none=>simp [hq]at h
  |some q=>
   cases hr:fs.mapM (fun f=>(P.info? f.type).map fun q=>(f.offset,q.size))with
   |none=>simp [hq,hr]at h
   |some qs=>
    simp [hq,hr]at h
    subst h
    have ih:=Ad fs qs w hr
    simp [sizeOf,typeInfo,hq]at ih ⊢
    simp [ih]
section
variable{E:En}{ty:TypeId}
def BP(E:En)(G:jZ){α:Type}(r:Rp α)(ps:List (Nat×Nat)):α->List (Nat×Operand)->α->Prop
 |x,[],y=>x=y
 |x,(i,o)::rest,y=> ∃(β:Type) (q:Rp β) (set:α->β->α) (off:Nat) (v:β),ps[i]? =some (off,q.sz)/\ij r off q set/\Nat.ble (off+q.sz) r.sz=true/\aF E.N G o (H q v)/\BP E G r ps (set x v) rest y
def AH{α:Type}{r:Rp α}{ps:List (Nat×Nat)}{S:SH}{a:Act}(hF:cW E.N S a G): ∀(parts:List (Nat×Operand)) (x y:α) (cs:List Value),BP E G r ps x parts y->r.rc S cs x->
  ∃ds,r.rc S ds y/\Instr.fill (ps.toArray[·]?) cs.toArray (parts.map fun p=>(p.1,a.eval p.2))=some ds.toArray
 |[],x,y,cs,h,I=>by
  have e:x=y:=h
  subst e
  exact⟨cs,I,rfl⟩
 |(i,o)::rest,x,y,cs,⟨β,q,set,off,v,Y,J,Z,h4,h5⟩,I=>by
  obtain⟨c,hv,hc⟩:=h4 S a hF
  have hl:=q.len hc
  have hlr:=r.len I
  have h3' :=pz Z
  have hcells:(a.eval o).cells=c.toArray:=by rw [hv];exact sx hc
  obtain⟨ds,h6,h7⟩:=AH hF rest _ y _ h5 (J S cs x c v I hc)
  refine⟨ds,h6,?_⟩
  have hps:ps.toArray[i]? =some (off,q.sz):=by simpa using Y
  have hs:(a.eval o).cells.size=q.sz:=by rw [hcells];simpa using hl
  have h8:=wI (a.eval o) off (cs.take off) ((cs.drop off).take q.sz) (cs.drop (off+q.sz)) (by rw [hs];simp;omega) (by simp;omega)
  have e1:cs.take off++(cs.drop off).take q.sz++cs.drop (off+q.sz)=cs:=by
   rw [jC,<-p8,sn,sn]
  rw [e1]at h8
  simp only [py,Instr.fill,hps]
  rw [bn (by simp [hs,hlr];omega),h8,hcells]
  simpa using h7
def bR{r:Rp α}{x y:α}{ps:List (Nat×Nat)}{sz:Nat}{agg:Bool}(ti:TI E.P hg sz bytes agg z)(hp:oe E.P hg=some ps)(hz: ∀S,r.rc S z x)(V:BP E G r ps x parts y)(ha:r.agg=true:=by rfl):
  bT E O G ⟨dst,.build hg parts.toArray,ty,pos,after,g⟩ (H r y):=
 .of_pure fun a w S _ _ hF=>by
  obtain⟨zv,hzr,hzc⟩:=ti.zero w
  obtain⟨ds,Y,J⟩:=AH hF parts x y z V (hz S)
  unfold oe at hp
  split at hp
  ·rename_i fs hu
   have hpl:=Ad fs.toList ps w hp
   have hpl2:(fs.mapM (fun f=>do pure (f.offset,<-sizeOf f.type):Field->Sem (Nat×Nat))).run E.P w= .ok ps.toArray w:=by
    have hfs:fs=fs.toList.toArray:=by simp
    generalize fs.toList=l at hfs hpl
    subst hfs
    rw [List.mapM_toArray,Sem.run_map,hpl]
    rfl
   refine⟨.agg ds.toArray,?_,ds,(qe ha ds).symm,Y⟩
   simp only [execOp,Instr.build,sW,hzr,uc,jB hu,hpl2,hzc]
   have hm:(parts.toArray.map fun(i,x)=>(i,a.eval x)).toList=parts.map fun p=>(p.1,a.eval p.2):=by simp
   rw [hm,J]
   simp
  ·cases hp
end
section
def gR{P:Program}{N:Nat}{B:Nat->Prop}{w0:World}{S0:SH}{r:Rp α}{x:α}{sz:Nat}{agg:Bool}(hr:fn.results= #[.cell k hg])(ti:TI P hg sz bytes agg z)(hsz:r.sz=sz)(hag:r.agg=agg)(hk:bM G k=some (bC r x)):
  AT ⟨P,⟨N,[]⟩,B,w0,S0,none⟩ (bodyPost P fn (Fb ⟨P,⟨N,[]⟩,B,w0,S0,none⟩ (H r x))) .ret O G:=fun a w S st=>by
 obtain⟨b,off,c,U,fr,Y,J,Z⟩:=st.facts.at_ k _ hk
 obtain⟨c',h4,h5⟩:=st.sat.part J (r.len Z)
 rw [<-h5]at Z
 refine⟨st.facts.defers,r.val ((c'.toList.drop off).take r.sz),?_,_,S,rfl,st.ext,st.sat,_,rfl,Z⟩
 have hl:=jh ti h4 hsz hag Z
 have h1' :a.tmps[k]?.getD undef=Value.pointer (some ⟨b,off,none⟩):=by simpa [DC] using Y
 simp [results,hr,h1',asAddr,hl]
end
end Go.Proofs.YtbmmihfagmchaaaGreat

