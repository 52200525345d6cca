/- bR of this claim: W1, W49, W2, W3, W4, W5, W6, W7, W8, W9, W10, W11, W12, W13. -/
import Derived.WalkKit
import Derived.Orders
import Derived.Lone
import Derived.RunT
import Derived.Calls
import Derived.RangeFuncIn
import Derived.TacticsIn
import Derived.OrdersIn
import Derived.LoopIn
import Derived.Laws.AppendOwn
import Derived.Deep.Upon
import Derived.Lib.AppendStr
import Derived.IntWalk
set_option linter.all false
-- TABI
namespace Go.Proofs.YtdohlidddcgfjaaGreat
open Go
def br:= @Option.bind_some
def aZ:= @if_neg
def bu:= @if_pos
def pZ:= @List.getElem?_eq_some_iff
def nV:= @List.mem_cons_self
def o8:= @List.mem_cons_of_mem
def jW:= @Nat.le_refl
def sx:= @List.getElem?_eq_getElem
def oB:= @List.append_assoc
def iO:= @Bool.and_eq_true
def jj:= @List.length_cons
def iv:= @run_underlying
def kO:= @List.length_append
def nk:= @Nat.eq_of_beq_eq_true
def mB:= @List.length_flatMap
def jy:= @List.mem_cons
def sd:= @List.eq_nil_of_length_eq_zero
def me:= @List.all_eq_true
def pN:= @Nat.le_of_ble_eq_true
def mz:= @List.nil_append
def o0:= @Bool.false_eq_true
def qL:= @List.take_append_drop
def uo:= @List.getElem?_append_right
def sb:= @List.take_of_length_le
def o9:= @decide_eq_true_eq
def mA:= @Bool.true_and
def oy:= @Option.some.inj
def rm:= @List.mem_of_getElem?
def m0:= @Nat.lt_or_ge
def p6:= @IntKind.wrap_i64
def vX:= @List.getElem?_take_of_lt
def wE:= @Array.getElem?_replicate
def nv:= @Nat.zero_le
def xv:= @List.getElem?_append_left
def z1:= @List.take_append_of_le_length
def tk:= @List.getElem?_drop
def sF:= @Result.andThen_ok
def jY:= @if_true
def uA:= @Nat.lt_of_lt_of_le
def sC:= @List.append_nil
def qK:= @Bool.not_true
def md:= @if_false
def sa:= @List.drop_drop
def xu:= @Nat.mul_le_mul_right
def ul:= @List.length_nil
def uk:= @Option.map_some
def rl:= @Sem.run_bind
def sy:= @Bool.false_or
def uz:= @Nat.min_eq_left
def Cr:= @List.drop_eq_getElem_cons
def Ea:= @Array.getD_eq_getD_getElem?
def uy:= @Bool.and_assoc
def D9:= @Array.getElem?_eq_some_iff
def yJ:= @Int.toNat_natCast
def Cq:= @Option.map_eq_some_iff
def uj:= @Nat.zero_add
def xo:= @List.mem_append
def xn:= @Bool.or_eq_true
def r0:= @Nat.blt_eq
def vW:= @getD_set_true
def yH:= @Bool.not_eq_true
def yG:= @Nat.lt_succ_self
def D8:= @List.drop_of_length_le
def xm:= @List.take_take
def zX:= @List.length_drop
def ux:= @Nat.add_mul
def zW:= @List.length_set
def Cp:= @List.mem_singleton
def Ax:= @List.cons_append
def Aw:= @List.any_eq_true
def Av:= @IntKind.wrap_u64
def Au:= @List.take_length
def As:= @List.length_take
def Cm:= @Bool.not_eq_true'
def Fe:= @Bool.and_eq_true_iff
def Ar:= @List.drop_zero
def Aq:= @heap_alloc_new
def D6:= @Option.bind_assoc
def D5:= @Function.comp_def
def Fc:= @Array.length_toList
def Cl:= @Bool.eq_iff_iff
def wC:= @beq_iff_eq
def Hk:= @List.getElem?_eq_none
def AI:= @List.length_replicate
def uc:= @Nat.sub_self
def wi:= @List.drop_take
def AH:= @List.mem_append_left
def CV:= @List.getElem?_cons_zero
def zx:= @List.flatMap_cons
def xA:= @Option.bind_map
def qN:= @mem_ready
def xz:= @IntKind.wrap_u8
def ub:= @getD_set_ne
def xy:= @Bool.not_false
def uC:= @Prod.mk.inj
def CU:= @List.drop_eq_nil_iff
def wh:= @Nat.le_trans
def AD:= @Bool.eq_false_iff
def Jg:= @List.drop_append_of_le_length
def Fj:= @List.drop_eq_nil_of_le
def uB:= @bne_iff_ne
def xx:= @Nat.le_of_eq
def qM:= @Iff.rfl
def Fi:= @List.contains_iff_mem
def zw:= @List.all_cons
def zu:= @Bool.or_false
def Jf:= @Int.fdiv_eq_ediv_of_nonneg
def CS:= @List.size_toArray
def xw:= @Nat.mul_one
def CR:= @List.getElem_mem
def LO:= @List.take_succ_eq_append_getElem
def zt:= @Bool.or_true
def Je:= @Nat.add_right_cancel_iff
def zr:= @Nat.add_zero
def Fh:= @List.map_congr_left
def Jc:= @decide_eq_false_iff_not
def AA:= @List.map_cons
def CQ:= @List.length_map
def Jb:= @Array.toList_replicate
def Ja:= @MapKept.run_getObj_map
def I9:= @List.countP_replicate
def Az:= @List.mem_map
def Ay:= @Bool.true_or
def I8:= @MapKept.run_checkKey
def Ff:= @decide_eq_decide

def Fa:Obj->Obj->Prop
 | .cells c E fr,o' => ∃aN:List Value,o' = .cells (c.toList++aN).toArray E fr
 |o,o' =>o' =o
variable{o:Oper}
def qY(o:Obj):Fa o o:=by
 cases o<;>first|rfl|exact⟨[],by simp⟩
variable{c:Code}{cells:List Value}{aN:Nat}{fr:Nat×Nat}{k:Nat}{o' :Obj}
def Dv{o o'' :Obj}(h:Fa o o')(k:Fa o' o''):Fa o o'' :=by
 cases o with
 |cells c E fr=>
  obtain⟨aN,rfl⟩:=h
  obtain⟨d',rfl⟩:=k
  exact⟨aN++d',by simp⟩
 |_=>cases h;exact k
variable{off:Nat}
def Bi{c:Array Value}{E:TypeId}(h:Fa (.cells c E fr) o'){n:Nat}(hl:((c.toList.drop off).take n).length=n):
  ∃c',o' = .cells c' E fr/\(c'.toList.drop off).take n=(c.toList.drop off).take n:=by
 obtain⟨aN,rfl⟩:=h
 refine⟨_,rfl,?_⟩
 by_cases hn:n=0
 ·subst hn;simp
 simp only [As,zX]at hl
 rw [Jg (by omega),z1 (by simp only [zX];omega)]
abbrev SH:=Nat->Option Obj
def SH.le(S S' :SH):Prop:= ∀b o,S b=some o-> ∃o',S' b=some o' /\Fa o o'
variable{S:SH}
def SH.le_refl(S:SH):SH.le S S:=fun _ o h=>⟨o,h,qY o⟩
variable{S' S'' :SH}{b:Bool}{e:TypeId}
def SH.le_trans(h:SH.le S S')(k:SH.le S' S''):SH.le S S'' :=fun b o e=>let⟨o',Y,H⟩:=h b o e;let⟨o'',Q,h4⟩:=k b o' Y;⟨o'',Q,Dv H h4⟩
structure Ty where
 p:SH->Value->Prop
 mono: ∀{S S' :SH} {v:Value},SH.le S S' ->p S v->p S' v

structure Rp(α:Type) where
 sz:Nat
 agg:Bool
 rc:SH->List Value->α->Prop
 mono: ∀{S S' :SH} {cs:List Value} {x:α},SH.le S S' ->rc S cs x->rc S' cs x
 len: ∀{S:SH} {cs:List Value} {x:α},rc S cs x->cs.length=sz
 one: ∀{S:SH} {cs:List Value} {x:α},rc S cs x-> ∀c∈cs,c.oneCell' =true
 sc:agg=false->sz=1

def Rp.val{α:Type}(r:Rp α)(cs:List Value):Value:=if r.agg then .agg cs.toArray else cs.headD undef

def tD{α:Type}(r:Rp α)(x:α):Ty where
 p:=fun S v=> ∃cs,v=r.val cs/\r.rc S cs x
 mono:=fun h ⟨cs,e,k⟩=>⟨cs,e,r.mono h k⟩

def AW:Ty where
 p:=fun _ _=>True
 mono:=fun _ _=>trivial

def K(u:Value):Ty where
 p:=fun _ v=>v=u
 mono:=fun _ h=>h

def rI(k:IntKind):Rp Int where
 sz:=1
 agg:=false
 rc:=fun _ cs x=>cs=[.int k x]
 mono:=fun _ h=>h
 len:=fun h=>by rw [h];rfl
 one:=fun h c hc=>by subst h;simp at hc;subst hc;rfl
 sc:=fun _=>rfl

def rB:Rp Bool where
 sz:=1
 agg:=false
 rc:=fun _ cs x=>cs=[.bool x]
 mono:=fun _ h=>h
 len:=fun h=>by rw [h];rfl
 one:=fun h c hc=>by subst h;simp at hc;subst hc;rfl
 sc:=fun _=>rfl

abbrev NL:=List UInt8
def rS:Rp NL where
 sz:=1
 agg:=false
 rc:=fun _ cs x=>cs=[.string ⟨x.toArray⟩]
 mono:=fun _ h=>h
 len:=fun h=>by rw [h];rfl
 one:=fun h c hc=>by subst h;simp at hc;subst hc;rfl
 sc:=fun _=>rfl

variable{cs:List Value}{v:Value}
def dq{k:IntKind}{n:Int}:(tD (rI k) n).p S v↔v= .int k n:=by
 constructor
 ·rintro⟨cs,rfl,h⟩;have h' :cs=[.int k n]:=h;subst h';rfl
 ·rintro rfl;exact⟨[.int k n],rfl,rfl⟩
def ie:(tD rB b).p S v↔v= .bool b:=by
 constructor
 ·rintro⟨cs,rfl,h⟩;have h' :cs=[.bool b]:=h;subst h';rfl
 ·rintro rfl;exact⟨[.bool b],rfl,rfl⟩
variable{ae:NL}
def yP:(tD rS ae).p S v↔v= .string ⟨ae.toArray⟩:=by
 constructor
 ·rintro⟨cs,rfl,h⟩;have h' :cs=[.string ⟨ae.toArray⟩]:=h;subst h';rfl
 ·rintro rfl;exact⟨[.string ⟨ae.toArray⟩],rfl,rfl⟩

def o4{α:Type}(r:Rp α)(S:SH):List Value->List α->Prop
 |cs,[]=>cs=[]
 |cs,x::xs=> ∃a b,cs=a++b/\r.rc S a x/\o4 r S b xs
variable{a:Act}{α:Type}{xs:List α}
def pQ{α:Type}{r:Rp α}{S S' :SH}(h:SH.le S S'): ∀{xs:List α} {cs:List Value},o4 r S cs xs->o4 r S' cs xs
 |[],_,k=>k
 |_::_,_,⟨a,b,e,Y,H⟩=>⟨a,b,e,r.mono h Y,pQ h H⟩
variable{x:Operand}
def jl{α:Type}{r:Rp α}{S:SH}: ∀{xs:List α} {cs:List Value},o4 r S cs xs->cs.length=xs.length*r.sz
 |[],_,k=>by rw [show _=_ from k];simp
 |x::xs,_,⟨a,b,e,Y,H⟩=>by rw [e,kO,r.len Y,jl H,jj,ux];omega
def vC{α:Type}{r:Rp α}{S:SH}: ∀{xs:List α} {cs:List Value},o4 r S cs xs-> ∀c∈cs,c.oneCell' =true
 |[],_,k,c,hc=>by rw [show _=_ from k]at hc;cases hc
 |x::xs,_,⟨a,b,e,Y,H⟩,c,hc=>by
  rw [e]at hc
  rcases xo.1 hc with h|h
  ·exact r.one Y c h
  ·exact vC H c h
variable{ys:List α}
def pf{α:Type}{r:Rp α}{S:SH}: ∀{xs ys:List α} {cs ds:List Value},o4 r S cs xs->o4 r S ds ys->o4 r S (cs++ds) (xs++ys)
 |[],_,_,_,k,h=>by rw [show _=_ from k];exact h
 |_::_,_,_,_,⟨a,b,e,Y,H⟩,h=>⟨a,_,by rw [e,oB],Y,pf H h⟩
def oc{α:Type}{r:Rp α}{S:SH}: ∀{xs ys:List α} {cs:List Value},o4 r S cs (xs++ys)->
  o4 r S (cs.take (xs.length*r.sz)) xs/\o4 r S (cs.drop (xs.length*r.sz)) ys
 |[],_,_,k=>by simp [o4];exact k
 |x::xs,ys,cs,⟨a,b,e,Y,H⟩=>by
  have hl:=r.len Y
  have ih:=oc H
  have e1:(x::xs).length*r.sz=a.length+xs.length*r.sz:=by rw [hl,jj,ux];omega
  rw [e,e1,List.take_length_add_append,List.drop_length_add_append]
  exact⟨⟨a,_,rfl,Y,ih.1⟩,ih.2⟩
def HT{r:Rp α}{x:α}:o4 r S cs [x]↔r.rc S cs x:=by
 constructor
 ·rintro⟨a,b,rfl,h,W⟩
  rw [show b=[]from W,sC];exact h
 ·intro h;exact⟨cs,[],by simp,h,rfl⟩
variable{i:Nat}
def xJ{r:Rp α}(h:o4 r S cs xs){x:α}(V:xs[i]? =some x):
  r.rc S ((cs.drop (i*r.sz)).take r.sz) x:=by
 have hi:i<xs.length:=(pZ.1 V).1
 have e:xs=xs.take i++(x::xs.drop (i+1)):=by
  have:=pZ.1 V
  rw [<-this.2,<-Cr hi,qL]
 have hl:(xs.take i).length=i:=by simp;omega
 rw [e]at h
 have H:=(oc h).2
 rw [hl]at H
 obtain⟨a,b,e2,Q,_⟩:=H
 rw [e2,<-r.len Q,List.take_left]
 exact Q

def Db{α:Type}(r:Rp α)(S:SH)(a:Option Addr)(xs:List α):Prop:=
 xs=[]\/ ∃b off c E fr,a=some ⟨b,off,none⟩/\S b=some (.cells c E fr)/\o4 r S ((c.toList.drop off).take (xs.length*r.sz)) xs
def gr{α:Type}(r:Rp α):Rp (List α) where
 sz:=1
 agg:=false
 rc:=fun S cs xs=> ∃a cap,cs=[.slice a xs.length cap]/\xs.length<=cap/\cap<=maxLen/\Db r S a xs
 mono:=fun h ⟨a,cap,e,Y,H,Q⟩=>⟨a,cap,e,Y,H,Q.imp id fun⟨b,off,c,E,fr,e1,e2,e3⟩=>by
  obtain⟨o',h4,h5⟩:=h _ _ e2
  obtain⟨c',rfl,h6⟩:=Bi h5 (jl e3)
  exact⟨b,off,c',E,fr,e1,h4,by rw [h6];exact pQ h e3⟩⟩
 len:=fun⟨a,cap,e,_⟩=>by rw [e];rfl
 one:=fun⟨a,cap,e,_⟩ c hc=>by rw [e]at hc;simp at hc;subst hc;rfl
 sc:=fun _=>rfl
variable{cap:Nat}
def jR{r:Rp α}:(tD (gr r) xs).p S v↔ ∃a cap,v= .slice a xs.length cap/\xs.length<=cap/\cap<=maxLen/\Db r S a xs:=by
 constructor
 ·rintro⟨cs,rfl,a,cap,rfl,h⟩;exact⟨a,cap,rfl,h⟩
 ·rintro⟨a,cap,rfl,h⟩;exact⟨_,rfl,a,cap,rfl,h⟩
def Ek{r:Rp α}:(tD (gr r) []).p S (.slice none 0 0):=jR.2 ⟨none,0,rfl,jW _,nv _,.inl rfl⟩

def cH{α:Type}(r:Rp α)(x:α):Ty where
 p:=fun S v=> ∃b off c E fr,v= .pointer (some ⟨b,off,none⟩)/\S b=some (.cells c E fr)/\r.rc S ((c.toList.drop off).take r.sz) x
 mono:=fun h ⟨b,off,c,E,fr,e1,e2,e3⟩=>by
  obtain⟨o',h4,h5⟩:=h _ _ e2
  obtain⟨c',rfl,h6⟩:=Bi h5 (r.len e3)
  exact⟨b,off,c',E,fr,e1,h4,by rw [h6];exact r.mono h e3⟩

def TL:List (Nat×List Value):=[]
def Ti(w:World):Prop:=True
structure kV(w:World)(S:SH):Prop where
 at_: ∀b o,S b=some o-> ∃o',w.heap[b]? =some o' /\Fa o o'
 gl: ∀p∈TL,∃c T fr,S p.1=some (.cells c T fr)/\c.toList.take p.2.length=p.2
 tb: ∀w' :World,(∀b o,S b=some o-> ∃o',w'.heap[b]? =some o' /\Fa o o')->Ti w'
instance{w:World}{S:SH}:CoeFun (kV w S) (fun _=> ∀b o,S b=some o-> ∃o',w.heap[b]? =some o' /\Fa o o'):=⟨kV.at_⟩
variable{w:World}
def kV.lt(h:kV w S){b:Nat}{o:Obj}(k:S b=some o):b<w.heap.size:=let⟨_,Y,_⟩:=h b o k;(D9.1 Y).1
def kV.part(h:kV w S){b:Nat}{c:Array Value}{E:TypeId}(k:S b=some (.cells c E fr)){n:Nat}(hl:((c.toList.drop off).take n).length=n):
  ∃c',w.heap[b]? =some (.cells c' E fr)/\(c'.toList.drop off).take n=(c.toList.drop off).take n:=by
 obtain⟨o',Y,H⟩:=h b _ k
 obtain⟨c',rfl,Q⟩:=Bi H hl
 exact⟨c',Y,Q⟩
variable{w' :World}
def kV.same(h:kV w S)(k: ∀b o,S b=some o->w'.heap[b]? =w.heap[b]?):kV w' S:=⟨fun b o e=>by rw [k b o e];exact h b o e,h.gl,h.tb⟩

def rn:Nat->Prop:=fun _=>False
structure jc(B:Nat->Prop)(w:World)(S:SH)(w' :World)(S' :SH):Prop where
 os:w'.os=w.os
 tape:w'.tape=w.tape
 output:w'.output=w.output
 drawn:w.drawn<=w'.drawn
 size:w.heap.size<=w'.heap.size
 heap: ∀k,k<w.heap.size-> ¬B k->w'.heap[k]? =w.heap[k]?
 keep:SH.le S S'
 old: ∀k,k<w.heap.size-> ¬B k->S' k=S k
def ib(B:Nat->Prop)(w:World)(S:SH):jc B w S w S:=⟨rfl,rfl,rfl,jW _,jW _,fun _ _ _=>rfl,SH.le_refl _,fun _ _ _=>rfl⟩
variable{w'' :World}
def jc.trans{B:Nat->Prop}(h:jc B w S w' S')(k:jc B w' S' w'' S''):jc B w S w'' S'' :=
 ⟨k.os.trans h.os,k.tape.trans h.tape,k.output.trans h.output,wh h.drawn k.drawn,wh h.size k.size,
  fun i hi W=>(k.heap i (uA hi h.size) W).trans (h.heap i hi W),SH.le_trans h.keep k.keep,
  fun i hi W=>(k.old i (uA hi h.size) W).trans (h.old i hi W)⟩
variable{C:Nat->Prop}
def jc.step{B:Nat->Prop}(h:jc B w S w' S')(k:jc C w' S' w'' S'')(hC: ∀b,C b->w.heap.size<=b\/B b):jc B w S w'' S'' :=
 ⟨k.os.trans h.os,k.tape.trans h.tape,k.output.trans h.output,wh h.drawn k.drawn,wh h.size k.size,
  fun i hi W=>(k.heap i (uA hi h.size) (fun hc=>(hC i hc).elim (fun h=>by omega) W)).trans (h.heap i hi W),SH.le_trans h.keep k.keep,
  fun i hi W=>(k.old i (uA hi h.size) (fun hc=>(hC i hc).elim (fun h=>by omega) W)).trans (h.old i hi W)⟩
def jc.more{B:Nat->Prop}(h:jc B w S w' S')(k: ∀b,B b->C b):jc C w S w' S' :=
 ⟨h.os,h.tape,h.output,h.drawn,h.size,fun i hi W=>h.heap i hi (fun h=>W (k i h)),h.keep,fun i hi W=>h.old i hi (fun h=>W (k i h))⟩
def jc.step0{B:Nat->Prop}(h:jc B w S w' S')(k:jc rn w' S' w'' S''):jc B w S w'' S'' :=h.step k fun _ W=>W.elim

structure OE where
 fp:Nat->Prop
 p:World->SH->Prop
 here: ∀{w S},p w S-> ∀k,fp k->k<w.heap.size
 kept: ∀{C w w' S S'},p w S->jc C w S w' S' ->(∀k,fp k-> ¬C k)->p w' S'
def OE.holds(e:OE)(base:Nat)(B:Nat->Prop)(w:World)(S:SH):Prop:=e.p w S/\ ∀k,e.fp k->base<=k\/B k
def OE.apart(e f:OE):Prop:= ∀b,e.fp b-> ¬f.fp b
def dL(base:Nat)(B:Nat->Prop)(w:World)(S:SH):List OE->Prop
 |[]=>True
 |e::O=>e.holds base B w S/\(∀f∈O,e.apart f)/\dL base B w S O
def E4{e:OE}{base:Nat}{B:Nat->Prop}(h:e.holds base B w S)(k:jc C w S w' S')(hC: ∀b,e.fp b-> ¬C b):e.holds base B w' S' :=⟨e.kept h.1 k hC,h.2⟩
variable{O:List OE}{f:FuncId}
def dL.ext{base:Nat}{B:Nat->Prop}(k:jc C w S w' S'): ∀{O:List OE},dL base B w S O->(∀e∈O,∀b,e.fp b-> ¬C b)->dL base B w' S' O
 |[],_,_=>trivial
 |e::_,⟨Y,H,Q⟩,hC=>⟨E4 Y k (hC e (nV ..)),H,dL.ext k Q fun f hf=>hC f (o8 _ hf)⟩
def dL.ext0{base:Nat}{B:Nat->Prop}(k:jc rn w S w' S')(h:dL base B w S O):dL base B w' S' O:=
 h.ext k fun _ _ _ _ W=>W
def dL.mem{base:Nat}{B:Nat->Prop}: ∀{O:List OE},dL base B w S O-> ∀e∈O,e.holds base B w S
 |_::_,⟨Y,_,_⟩,_,.head _=>Y
 |_::_,⟨_,_,Q⟩,_,.tail _ hm=>dL.mem Q _ hm

abbrev kN:=List (Nat×Ty)
def b8:kN->Nat->Option Ty
 |[],_=>none
 |(k,t)::G,j=>bif Nat.beq k j then some t else b8 G j
structure Fr where
 n:Nat
 ds:List Deferred
structure bR(N:Fr)(S:SH)(a:Act)(G:kN):Prop where
 size:a.tmps.size=N.n
 defers:a.defers=N.ds
 at_: ∀k t,b8 G k=some t->t.p S (a.tmps.getD k undef)
variable{G:kN}{j:Nat}{t:Ty}
def bR.mono{N:Fr}(h:bR N S a G)(k:SH.le S S'):bR N S' a G:=⟨h.size,h.defers,fun j t e=>t.mono k (h.at_ j t e)⟩
def bR.sub{N:Fr}{G' :kN}(h:bR N S a G)(k: ∀j t,b8 G' j=some t->b8 G j=some t):bR N S a G' :=⟨h.size,h.defers,fun j t e=>h.at_ j t (k j t e)⟩
variable{u:OE}
def bR.put{N:Fr}(h:bR N S a G)(hd:Nat.blt aN N.n=true)(hv:t.p S v):bR N S (a.put (some aN) v) ((aN,t)::G):=by
 have hd' :aN<N.n:=by simpa [r0] using hd
 refine⟨by simp [Act.put,h.size],h.defers,fun j u e=>?_⟩
 unfold b8 at e
 by_cases hj:aN=j
 ·subst hj
  have e' :t=u:=by simpa using e
  rw [e']at hv
  simp [Act.put,Ea,h.size,hd',hv]
 ·have W:Nat.beq aN j=false:=by cases hh:Nat.beq aN j with
   |false=>rfl
   |true=>exact absurd (nk hh) hj
  rw [W]at e
  have:=h.at_ j u e
  simpa [Act.put,Ea,Array.getElem?_setIfInBounds,hj] using this
def Kw:kN->kN->Prop
 |[],_=>True
 |(k,t)::G',G=>b8 G k=some t/\Kw G' G
def C9: ∀{G' G:kN},Kw G' G-> ∀j t,b8 G' j=some t->b8 G j=some t
 |(k,t)::G',G,⟨Y,H⟩,j,u,e=>by
  unfold b8 at e
  by_cases W:Nat.beq k j=true
  ·rw [W]at e
   have:=nk W
   subst this
   simp only [cond_true]at e
   rw [<-e];exact Y
  ·rw [yH]at W
   rw [W]at e
   exact C9 H j u e

def aI(N:Fr)(G:kN)(x:Operand)(t:Ty):Prop:= ∀S a,bR N S a G->t.p S (a.eval x)
def D{N:Fr}(h:b8 G k=some t):aI N G (.tmp k) t:=fun _ _ hF=>hF.at_ k t h
def hI{N:Fr}{k:IntKind}{n:Int}:aI N G (.const (.int k n)) (tD (rI k) n):=fun _ _ _=>dq.2 rfl
def hB{N:Fr}:aI N G (.const (.bool b)) (tD rB b):=fun _ _ _=>ie.2 rfl
def hS{N:Fr}{ae:Array UInt8}:aI N G (.const (.string ⟨ae⟩)) (tD rS ae.toList):=fun _ _ _=>yP.2 rfl
def OS{N:Fr}{r:Rp α}:aI N G (.const (.slice none 0 0)) (tD (gr r) []):=fun _ _ _=>Ek
def hV{N:Fr}:aI N G (.const v) (K v):=fun _ _ _=>rfl

section
variable{P:Program}
end

def fw(r:Option Nat):Fence:={fn:=fun _=>True,depth:=none,alive:=false,round:=r}
variable{args:α->List Ty}
def tY{r:Option Nat}{n:Nat}{P:Program}{args:Array Value}{R:Ending->World->Prop}:CallsIn (fw r) n P f args w R↔Calls P f args w R:=callsIn_wide
def Gx{r:Option Nat}{n:Nat}:(fw r).depth.isSome=true->1<=n:=fun h=>by cases h
structure En where
 P:Program
 N:Fr
 B:Nat->Prop
 w0:World
 S0:SH
 r:Option Nat
def En.base(E:En):Nat:=E.w0.heap.size

def Rh(P:Program)(o:Oper)(a:Act)(tV:Act->World->Prop):Result Next->Prop
 | .ok (.value v) w' =>tV (a.put o.dst v) w'
 | .ok .skip w' =>tV (a.put o.dst undef) w'
 | .ok (.enter f args) w' =>Calls P f args w' fun e w'' => ∃v,e= .returned v/\tV (a.put o.dst v) w''
 | .ok (.round l f tmps assign body) w' =>RoundIn (fw none) 0 P l f tmps assign body w' fun e w'' => ∃v,e= .returned v/\tV (a.put o.dst v) w''
 |_=>False
def F8(P:Program)(o:Oper)(a:Act)(w:World)(tV:Act->World->Prop):Prop:=(∀c,o.op≠ .defer c)/\Rh P o a tV ((execOp a.eval o).run P w)
variable{l:Option Nat}
def HQ{r:Option Nat}{n:Nat}{P:Program}{l:Nat}{tmps:Array Value}{assign body:Code}{R:Ending->World->Prop}(h:RoundIn (fw none) 0 P l f tmps assign body w R):RoundIn (fw r) n P l f tmps assign body w R:=
 ⟨trivial,fun c cs _=>h.2 c cs (fun _ hd=>by cases hd)⟩
variable{tV K' :Act->World->Prop}
def My{P:Program}(hK: ∀a w,tV a w->K' a w){r:Result Next}(h:Rh P o a tV r):Rh P o a K' r:=by
 cases r with
 |ok n w=>
  cases n<;>simp only [Rh]at h ⊢
  case value=>exact hK _ _ h
  case skip=>exact hK _ _ h
  case enter f args=>exact h.mono fun e w' ⟨v,he,hk⟩=>⟨v,he,hK _ _ hk⟩
  case round l f tmps assign body=>exact h.mono fun e w' ⟨v,he,hk⟩=>⟨v,he,hK _ _ hk⟩
 |halt x w=>simp only [Rh]at h
def m7{P:Program}(hK: ∀a w,tV a w->K' a w)(h:F8 P o a w tV):F8 P o a w K' :=⟨h.1,My hK h.2⟩
variable{h3:Exit->Act->World->Prop}{β:Type}{res:β->Ty}
def j9{P:Program}{r:Option Nat}(hK: ∀a w,tV a w->K' a w)(h:F8 P o a w tV):o.wpIn (fw r) 0 P a w K' h3:=by
 obtain⟨hd,h⟩:=h
 refine⟨fun _ _=>trivial,?_⟩
 rw [Oper.semAt_eq _ _ _ hd]
 generalize (execOp a.eval o).run P w=res at h
 cases res with
 |ok n w=>
  cases n<;>simp only [Rh]at h<;>simp only [Oper.uponIn]
  case value=>exact hK _ _ h
  case skip=>exact hK _ _ h
  case enter f args=>exact⟨Gx,tY.2 (h.mono fun e w' ⟨v,he,hk⟩=>by subst he;exact hK _ _ hk)⟩
  case round l f tmps assign body=>exact⟨Gx,(HQ h).mono fun e w' ⟨v,he,hk⟩=>by subst he;exact hK _ _ hk⟩
 |halt x w=>simp only [Rh]at h

def b9(E:En)(O:List OE)(G:kN)(o:Oper)(t:Ty):Prop:=
 ∀a w S,kV w S->dL E.base E.B w S O->bR E.N S a G->
  F8 E.P o a w (fun a' w' => ∃v S',a' =a.put o.dst v/\jc rn w S w' S' /\kV w' S' /\t.p S' v)
structure St(E:En)(O:List OE)(G:kN)(a:Act)(w:World)(S:SH):Prop where
 ext:jc E.B E.w0 E.S0 w S
 sat:kV w S
 own:dL E.base E.B w S O
 facts:bR E.N S a G
def RG(E:En)(ops:Array Oper)(h3:Exit->Act->World->Prop)(l:List Oper)(O:List OE)(G:kN):Prop:= ∀a w S,St E O G a w S->wpListIn (fw E.r) 0 E.P ops h3 l a w
def CG(E:En)(h3:Exit->Act->World->Prop)(c:Code)(O:List OE)(G:kN):Prop:= ∀a w S,St E O G a w S->c.wpIn (fw E.r) 0 E.P h3 a w
def AT(E:En)(h3:Exit->Act->World->Prop)(e:Exit)(O:List OE)(G:kN):Prop:= ∀a w S,St E O G a w S->h3 e a w

variable{after:Array Edge}{fn:Func}{ops:Array Oper}{pos:String}{ts:List Ty}{y:Operand}
section
variable{E:En}{G' :kN}{l:List Oper}
def St.step(h:St E O G a w S)(k:jc rn w S w' S')(hs:kV w' S')(hd:Nat.blt aN E.N.n=true)(hv:t.p S' v):
  St E O ((aN,t)::G) (a.put (some aN) v) w' S' :=
 ⟨h.ext.step0 k,hs,h.own.ext0 k,(h.facts.mono k.keep).put hd hv⟩
def St.sub(h:St E O G a w S)(k:Kw G' G):St E O G' a w S:=⟨h.ext,h.sat,h.own,h.facts.sub (C9 k)⟩
def RG.of(X:o.guard=none)(h: ∀a w S,St E O G a w S->F8 E.P o a w (fun a' w' =>wpListIn (fw E.r) 0 E.P ops h3 l a' w')):RG E ops h3 (o::l) O G:=fun a w S st=>
 wpListIn_plain X fun _ hK=>j9 hK (h a w S st)

def rY{op:Op}{ty:TypeId}(h:b9 E O G ⟨some aN,op,ty,pos,after,none⟩ t)(hd:Nat.blt aN E.N.n=true)(k:RG E ops h3 l O ((aN,t)::G)):
  RG E ops h3 (⟨some aN,op,ty,pos,after,none⟩::l) O G:= .of rfl fun a w S st=>
 m7 (fun a' w' ⟨_,_,ha,he,hs,hv⟩=>by subst ha;exact k _ _ _ (st.step he hs hd hv)) (h a w S st.sat st.own st.facts)
def aS(h:AT E h3 .normal O G):RG E ops h3 [] O G:=fun a w S st=>h a w S st
def av{id:Nat}{l:List Oper}(h:RG E l.toArray h3 l O G):CG E h3 (.region id l.toArray false) O G:=fun a w S st=>wpIn_region_lit (h a w S st)
def aP{x y:Code}(h:CG E (Exit.then (y.wpIn (fw E.r) 0 E.P h3) h3) x O G):CG E h3 (.seq x y) O G:=fun a w S st=>wpIn_seq (h a w S st)
def aH{y:Code}(h:CG E h3 y O G):AT E (Exit.then (y.wpIn (fw E.r) 0 E.P h3) h3) .normal O G:=h
def bD(h:AT E h3 .normal O G):CG E h3 .skip O G:=fun a w S st=>wpIn_skip (h a w S st)
def dh{id:Nat}(h:AT E h3 (.exit id) O G):CG E h3 (.exit id) O G:=fun a w S st=>wpIn_exit (h a w S st)
def pA(h:AT E h3 .ret O G):CG E h3 .ret O G:=fun a w S st=>wpIn_ret (h a w S st)
def bP{e:Exit}(h:AT E h3 e O G')(k:Kw G' G):AT E h3 e O G:=fun a w S st=>h a w S (st.sub k)
def qz{c:Operand}{x y:Code}(W:aI E.N G c (tD rB b))(V:b=true->CG E h3 x O G)(hy:b=false->CG E h3 y O G):CG E h3 (.cond c x y) O G:=fun a w S st=>by
 have hv:a.eval c= .bool b:=ie.1 (W S a st.facts)
 refine wpIn_cond hv ?_
 cases b with
 |true=>exact V rfl a w S st
 |false=>exact hy rfl a w S st
def aA{id:Nat}(h:CG E (Exit.inBlock id h3) c O G):CG E h3 (.block id c) O G:=fun a w S st=>wpIn_block (h a w S st)
def wY(r:Option Nat)(P:Program)(c:Code)(h3:Exit->Act->World->Prop)(a:Act)(w:World):Prop:=
 ∀(b:Frame) (k:List Item) (cs:List Frame),b.roundOf=r-> ∃e a' w',h3 e a' w' /\ArrivesIn (Machine.fenced P (fw r)) P (lone (b.atR a (.code c:: .inLoop c::k)) cs w) b k cs e a' w'
def JK{r:Option Nat}{n:Nat}:(fw r).room n:=fun _ hd=>by cases hd
def Ee{r:Option Nat}{P:Program}{h3:Exit->Act->World->Prop}(h:wY r P c h3 a w):(Code.loop c).wpIn (fw r) 0 P h3 a w:=fun b k cs hro W hr=>
 let⟨e,a',w',hq,harr⟩:=h b k cs hro
 ⟨e,a',w',hq,.of_steps (.one (fenced_calm W hr rfl) stepR_loop) harr⟩
def CI{r:Option Nat}{P:Program}{h3:Exit->Act->World->Prop}(h:c.wpIn (fw r) 0 P (Exit.then (wY r P c h3) h3) a w):wY r P c h3 a w:=by
 intro b k cs hro
 obtain⟨e,a₁,w₁,hq,harr⟩:=h b (.inLoop c::k) cs hro trivial JK
 cases e with
 |normal=>
  obtain⟨e₂,a₂,w₂,hq₂,harr₂⟩:=hq b k cs hro
  exact⟨e₂,a₂,w₂,hq₂,.of_steps (StepsIn.trans harr (.one (fenced_calm (n:=0) (F:=fw r) trivial JK rfl) stepR_inLoop)) harr₂⟩
 |exit id=>exact⟨_,a₁,w₁,hq,.pass (x:= .inLoop c) rfl (fun _ _=> .inl (by simp)) harr⟩
 |goto l=>exact⟨_,a₁,w₁,hq,.pass (x:= .inLoop c) rfl (fun _ _=> .inl (by simp)) harr⟩
 |ret=>exact⟨_,a₁,w₁,hq,.pass (x:= .inLoop c) rfl (fun _ _=> .inl (by simp)) harr⟩
 |panic ch=>exact⟨_,a₁,w₁,hq,.pass (x:= .inLoop c) rfl (fun _ _=> .inl (by simp)) harr⟩
 |outgrown=>exact⟨_,a₁,w₁,hq,.pass (x:= .inLoop c) rfl (fun _ _=> .inl (by simp)) harr⟩
def LG(E:En)(h3:Exit->Act->World->Prop)(c:Code)(O:List OE)(G:kN):Prop:= ∀a w S,St E O G a w S->wY E.r E.P c h3 a w
def bV(h:LG E h3 c O G):CG E h3 (.loop c) O G:=fun a w S st=>Ee (h a w S st)
def d8(h:CG E (Exit.then (wY E.r E.P c h3) h3) c O G):LG E h3 c O G:=fun a w S st=>CI (h a w S st)
def aT(h:LG E h3 c O G')(k:Kw G' G):LG E h3 c O G:=fun a w S st=>h a w S (st.sub k)
def bf(h:LG E h3 c O G):AT E (Exit.then (wY E.r E.P c h3) h3) .normal O G:=h
def aq{id:Nat}(h:AT E h3 (.exit id) O G):AT E (Exit.then tV h3) (.exit id) O G:=h
def aC(h:AT E h3 .ret O G):AT E (Exit.then tV h3) .ret O G:=h
def LI{id:Nat}(h:AT E h3 .ret O G):AT E (Exit.inBlock id h3) .ret O G:=h
def aF{id:Nat}(h:AT E h3 .normal O G):AT E (Exit.inBlock id h3) .normal O G:=h
def bY{id:Nat}(h:AT E h3 .normal O G):AT E (Exit.inBlock id h3) (.exit id) O G:=fun a w S st=>by
 simp only [Exit.inBlock,jY];exact h a w S st
def bF{id id' :Nat}(hne:Nat.beq id' id=false)(h:AT E h3 (.exit id') O G):AT E (Exit.inBlock id h3) (.exit id') O G:=fun a w S st=>by
 have:id' ≠id:=fun e=>by subst e;simp at hne
 simp only [Exit.inBlock,this,md];exact h a w S st

def uw(S:SH):List Ty->List Value->Prop
 |[],[]=>True
 |t::ts,v::vs=>t.p S v/\uw S ts vs
 |_,_=>False
def uw.mono(h:SH.le S S'): ∀{ts:List Ty} {vs:List Value},uw S ts vs->uw S' ts vs
 |[],[],_=>trivial
 |t::_,_::_,⟨Y,H⟩=>⟨t.mono h Y,uw.mono h H⟩
def uw.length: ∀{ts:List Ty} {vs:List Value},uw S ts vs->vs.length=ts.length
 |[],[],_=>rfl
 |_::_,_::_,⟨_,H⟩=>by simp [uw.length H]
def dy(P:Program)(f:FuncId)(ts:List Ty)(t:Ty):Prop:=
 ∀w S vs,kV w S->uw S ts vs->Calls P f vs.toArray w fun e w' => ∃v S',e= .returned v/\jc rn w S w' S' /\kV w' S' /\t.p S' v
def GM(E:En)(t:Ty):Ending->World->Prop:=fun e w' => ∃v S',e= .returned v/\jc E.B E.w0 E.S0 w' S' /\kV w' S' /\t.p S' v
def wv(k:Nat):List Ty->kN
 |[]=>[]
 |t::ts=>(k,t)::wv (k+1) ts
def Bo: ∀(ts:List Ty) (k j:Nat) (t:Ty),b8 (wv k ts) j=some t-> ∃i,j=k+i/\ts[i]? =some t
 |[],_,_,_,h=>by simp [wv,b8]at h
 |u::ts,k,j,t,h=>by
  unfold wv b8 at h
  by_cases W:Nat.beq k j=true
  ·rw [W]at h
   exact⟨0,by rw [nk W];rfl,by simpa using h⟩
  ·rw [yH]at W
   rw [W]at h
   obtain⟨i,Y,H⟩:=Bo ts (k+1) j t h
   exact⟨i+1,by omega,by simpa using H⟩
def uw.at_: ∀{ts:List Ty} {vs:List Value} (_:uw S ts vs) (i:Nat) (t:Ty),ts[i]? =some t-> ∃v,vs[i]? =some v/\t.p S v
 |_::_,v::_,⟨Y,_⟩,0,t,h=>⟨v,rfl,by simp at h;rw [<-h];exact Y⟩
 |_::ts,_::vs,⟨_,H⟩,i+1,t,h=>by simpa using uw.at_ H i t (by simpa using h)
def xe{vs:List Value}(h:uw S ts vs)(n:Nat)(hn:ts.length<=n):
  bR ⟨n,[]⟩ S {tmps:=vs.toArray++Array.replicate (n-vs.toArray.size) undef,defers:=[]} (wv 0 ts):=by
 have hl:=h.length
 refine⟨by simp;omega,rfl,fun j t hj=>?_⟩
 obtain⟨i,e,hi⟩:=Bo ts 0 j t hj
 have e' :j=i:=by omega
 subst e'
 obtain⟨v,hv,D⟩:=h.at_ j t hi
 have hlt:j<vs.length:=(pZ.1 hv).1
 have:(vs.toArray++Array.replicate (n-vs.toArray.size) undef).getD j undef=v:=by
  rw [Ea,Array.getElem?_append_left (by simpa using hlt)]
  simp [hv]
 rw [this];exact D
def E1{P:Program}(hf:P.funcs[f]? =some fn)(W:fn.body=some c)(hn:ts.length<=fn.ntmps)(h: ∀w0 S0,CG ⟨P,⟨fn.ntmps,[]⟩,rn,w0,S0,none⟩ (bodyPost P fn (GM ⟨P,⟨fn.ntmps,[]⟩,rn,w0,S0,none⟩ t)) c [] (wv 0 ts)):dy P f ts t:=by
 intro w S vs hs hv
 exact tY.1 (callsIn_of_wp (F:=fw none) (n:=0) hf W trivial (h w S _ w S ⟨ib _ _ _,hs,trivial,xe hv _ hn⟩))
def qb(P:Program)(fn:Func)(k:Nat)(h:fn.results= #[.tmp k])(tmps:Array Value)(w:World):(results fn tmps).run P w= .ok (tmps.getD k undef) w:=by
 simp [results,h]
def aQ{P:Program}{N:Nat}{B:Nat->Prop}{w0:World}{S0:SH}(hr:fn.results= #[.tmp k])(hk:b8 G k=some t):
  AT ⟨P,⟨N,[]⟩,B,w0,S0,none⟩ (bodyPost P fn (GM ⟨P,⟨N,[]⟩,B,w0,S0,none⟩ t)) .ret O G:=fun _ _ S st=>
 ⟨st.facts.defers,_,qb P fn k hr _ _,_,S,rfl,st.ext,st.sat,st.facts.at_ k t hk⟩
def tT(ts:List Ty):Ty where
 p:=fun S v=> ∃vs,v= .tuple vs.toArray/\uw S ts vs
 mono:=fun h k=>by obtain⟨vs,e,k⟩:=k;exact⟨vs,e,uw.mono h k⟩
def z8(P:Program)(fn:Func)(j k:Nat)(h:fn.results= #[.tmp j,.tmp k])(tmps:Array Value)(w:World):(results fn tmps).run P w= .ok (.tuple #[tmps.getD j undef,tmps.getD k undef]) w:=by
 simp [results,h]
def ev{P:Program}{N:Nat}{B:Nat->Prop}{w0:World}{S0:SH}{u:Ty}(hr:fn.results= #[.tmp j,.tmp k])(hj:b8 G j=some t)(hk:b8 G k=some u):
  AT ⟨P,⟨N,[]⟩,B,w0,S0,none⟩ (bodyPost P fn (GM ⟨P,⟨N,[]⟩,B,w0,S0,none⟩ (tT [t,u]))) .ret O G:=fun _ _ S st=>
 ⟨st.facts.defers,_,z8 P fn j k hr _ _,_,S,rfl,st.ext,st.sat,[_,_],rfl,st.facts.at_ j t hj,st.facts.at_ k u hk,trivial⟩
def xE(P:Program)(fn:Func)(i j k:Nat)(h:fn.results= #[.tmp i,.tmp j,.tmp k])(tmps:Array Value)(w:World):(results fn tmps).run P w= .ok (.tuple #[tmps.getD i undef,tmps.getD j undef,tmps.getD k undef]) w:=by
 simp [results,h]
def vV{P:Program}{N:Nat}{B:Nat->Prop}{w0:World}{S0:SH}{ae u:Ty}(hr:fn.results= #[.tmp i,.tmp j,.tmp k])(hi:b8 G i=some ae)(hj:b8 G j=some t)(hk:b8 G k=some u):
  AT ⟨P,⟨N,[]⟩,B,w0,S0,none⟩ (bodyPost P fn (GM ⟨P,⟨N,[]⟩,B,w0,S0,none⟩ (tT [ae,t,u]))) .ret O G:=fun _ _ S st=>
 ⟨st.facts.defers,_,xE P fn i j k hr _ _,_,S,rfl,st.ext,st.sat,[_,_,_],rfl,st.facts.at_ i ae hi,st.facts.at_ j t hj,st.facts.at_ k u hk,trivial⟩
def sJ(P:Program)(fn:Func)(h:fn.results= #[])(tmps:Array Value)(w:World):(results fn tmps).run P w= .ok (.tuple #[]) w:=by
 simp [results,h]
end

variable{dst:Option Tmp}{g:Option (Nat×Bool)}{k' :IntKind}{xt yt:TypeId}
section
variable{E:En}{ty:TypeId}
def b9.of_run(h: ∀a w S,kV w S->dL E.base E.B w S O->bR E.N S a G->
  ∃v w' S',(execOp a.eval o).run E.P w= .ok (.value v) w' /\jc rn w S w' S' /\kV w' S' /\t.p S' v)(hd: ∀c,o.op≠ .defer c:=by intro c h;cases h):b9 E O G o t:=fun a w S hs ho hf=>by
 obtain⟨v,w',S',hr,he,hs',hv⟩:=h a w S hs ho hf
 refine⟨hd,?_⟩
 rw [hr]
 exact⟨v,S',rfl,he,hs',hv⟩
def b9.of_pure(h: ∀a w S,kV w S->dL E.base E.B w S O->bR E.N S a G-> ∃v,(execOp a.eval o).run E.P w= .ok (.value v) w/\t.p S v)(hd: ∀c,o.op≠ .defer c:=by intro c h;cases h):b9 E O G o t:=
 .of_run (fun a w S hs ho hf=>let⟨v,hr,hv⟩:=h a w S hs ho hf;⟨v,w,S,hr,ib _ _ _,hs,hv⟩) hd

def bU(V:aI E.N G x t):b9 E O G ⟨dst,.move x,ty,pos,after,g⟩ t:=
 .of_pure fun a _ S _ _ hf=>⟨a.eval x,rfl,V S a hf⟩
def bZ(V:aI E.N G x t):b9 E O G ⟨dst,.assign x,ty,pos,after,g⟩ t:=
 .of_pure fun a _ S _ _ hf=>⟨a.eval x,rfl,V S a hf⟩
def vG{c:Operand}(hc:aI E.N G c (tD rB b))(V:b=true->aI E.N G x t)(hy:b=false->aI E.N G y t):b9 E O G ⟨dst,.pick c x y,ty,pos,after,g⟩ t:=
 .of_pure fun a _ S _ _ hf=>by
  have Y:a.eval c= .bool b:=ie.1 (hc S a hf)
  refine⟨if b then a.eval x else a.eval y,by simp [execOp,Y,asBool],?_⟩
  cases b with
  |true=>exact V rfl S a hf
  |false=>exact hy rfl S a hf

section
variable{k:IntKind}{m n:Int}
def zM{P:Program}{op:BinOp}{xt:TypeId}{x y:Operand}{k:IntKind}{m n:Int}:(eqGuard op xt x y (.int k m) (.int k' n)).run P w= .ok () w:=by
 unfold eqGuard
 cases op<;>rfl
def qd{op:BinOp}(V:aI E.N G x (tD (rI k) m))(hy:aI E.N G y (tD (rI k) n))(hv: ∀P w,(binOp op xt (.int k m) (.int k n)).run P w= .ok v w)(D: ∀S,t.p S v):
  b9 E O G ⟨dst,.binOp op xt x y yt,ty,pos,after,g⟩ t:=
 .of_pure fun a w S _ _ hf=>by
  have Y:a.eval x= .int k m:=dq.1 (V S a hf)
  have H:a.eval y= .int k n:=dq.1 (hy S a hf)
  refine⟨v,?_,D S⟩
  simp [execOp,Y,H,zM,hv]
def fc(V:aI E.N G x (tD (rI k) m))(hy:aI E.N G y (tD (rI k) n)):b9 E O G ⟨dst,.binOp .add xt x y yt,ty,pos,after,g⟩ (tD (rI k) (k.wrap (m+n))):=
 qd V hy (fun _ _=>by simp [binOp,Op.intArith]) (fun _=>dq.2 rfl)
def ii(V:aI E.N G x (tD (rI k) m))(hy:aI E.N G y (tD (rI k) n)):b9 E O G ⟨dst,.binOp .sub xt x y yt,ty,pos,after,g⟩ (tD (rI k) (k.wrap (m-n))):=
 qd V hy (fun _ _=>by simp [binOp,Op.intArith]) (fun _=>dq.2 rfl)
def Bj(V:aI E.N G x (tD (rI k) m))(hy:aI E.N G y (tD (rI k) n)):b9 E O G ⟨dst,.binOp .mul xt x y yt,ty,pos,after,g⟩ (tD (rI k) (k.wrap (m*n))):=
 qd V hy (fun _ _=>by simp [binOp,Op.intArith]) (fun _=>dq.2 rfl)
def MD(V:aI E.N G x (tD (rI k) m))(hy:aI E.N G y (tD (rI k) n))(h0:n≠0):b9 E O G ⟨dst,.binOp .quo xt x y yt,ty,pos,after,g⟩ (tD (rI k) (k.wrap (m.tdiv n))):=
 qd V hy (fun _ _=>by simp [binOp,Op.intDiv,h0]) (fun _=>dq.2 rfl)
def ij(V:aI E.N G x (tD (rI k) m))(hy:aI E.N G y (tD (rI k) n)):b9 E O G ⟨dst,.binOp .lss xt x y yt,ty,pos,after,g⟩ (tD rB (decide (m<n))):=
 qd V hy (fun _ _=>by simp [binOp,Op.intCmp]) (fun _=>ie.2 rfl)
def gu(V:aI E.N G x (tD (rI k) m))(hy:aI E.N G y (tD (rI k) n)):b9 E O G ⟨dst,.binOp .leq xt x y yt,ty,pos,after,g⟩ (tD rB (decide (m<=n))):=
 qd V hy (fun _ _=>by simp [binOp,Op.intCmp]) (fun _=>ie.2 rfl)
def jL(V:aI E.N G x (tD (rI k) m))(hy:aI E.N G y (tD (rI k) n)):b9 E O G ⟨dst,.binOp .gtr xt x y yt,ty,pos,after,g⟩ (tD rB (decide (n<m))):=
 qd V hy (fun _ _=>by simp [binOp,Op.intCmp]) (fun _=>ie.2 rfl)
def gE(V:aI E.N G x (tD (rI k) m))(hy:aI E.N G y (tD (rI k) n)):b9 E O G ⟨dst,.binOp .geq xt x y yt,ty,pos,after,g⟩ (tD rB (decide (n<=m))):=
 qd V hy (fun _ _=>by simp [binOp,Op.intCmp]) (fun _=>ie.2 rfl)
def dx(V:aI E.N G x (tD (rI k) m))(hy:aI E.N G y (tD (rI k) n)):b9 E O G ⟨dst,.binOp .eql xt x y yt,ty,pos,after,g⟩ (tD rB (m==n)):=
 qd V hy (fun _ _=>by simp [binOp,Op.intCmp]) (fun _=>ie.2 rfl)
def jm(V:aI E.N G x (tD (rI k) m))(hy:aI E.N G y (tD (rI k) n)):b9 E O G ⟨dst,.binOp .neq xt x y yt,ty,pos,after,g⟩ (tD rB (m !=n)):=
 qd V hy (fun _ _=>by simp [binOp,Op.intCmp]) (fun _=>ie.2 rfl)
def qh(op:BinOp)(k:IntKind)(x y:Int):Int:=
 k.wrap (match op with
  | .and=>(BitVec.ofInt k.bits x&&&BitVec.ofInt k.bits y).toNat
  | .or=>(BitVec.ofInt k.bits x|||BitVec.ofInt k.bits y).toNat
  | .xor=>(BitVec.ofInt k.bits x^^^BitVec.ofInt k.bits y).toNat
  |_=>(BitVec.ofInt k.bits x&&& ~~~BitVec.ofInt k.bits y).toNat:Nat)
def Rm(V:aI E.N G x (tD (rI k) m))(hy:aI E.N G y (tD (rI k) n)):b9 E O G ⟨dst,.binOp .and xt x y yt,ty,pos,after,g⟩ (tD (rI k) (qh .and k m n)):=
 qd V hy (fun _ _=>by simp [binOp,Op.intBits];rfl) (fun _=>dq.2 rfl)
def Ez(V:aI E.N G x (tD (rI k) m))(hy:aI E.N G y (tD (rI k) n)):b9 E O G ⟨dst,.binOp .xor xt x y yt,ty,pos,after,g⟩ (tD (rI k) (qh .xor k m n)):=
 qd V hy (fun _ _=>by simp [binOp,Op.intBits];rfl) (fun _=>dq.2 rfl)
def Gb{op:BinOp}(V:aI E.N G x (tD (rI k) m))(hy:aI E.N G y (tD (rI k') n))(hv: ∀P w,(binOp op xt (.int k m) (.int k' n)).run P w= .ok v w)(D: ∀S,t.p S v):
  b9 E O G ⟨dst,.binOp op xt x y yt,ty,pos,after,g⟩ t:=
 .of_pure fun a w S _ _ hf=>by
  have Y:a.eval x= .int k m:=dq.1 (V S a hf)
  have H:a.eval y= .int k' n:=dq.1 (hy S a hf)
  refine⟨v,?_,D S⟩
  simp [execOp,Y,H,zM,hv]
def Rk(V:aI E.N G x (tD (rI k) m))(hy:aI E.N G y (tD (rI k') n))(h0:0<=n):b9 E O G ⟨dst,.binOp .shl xt x y yt,ty,pos,after,g⟩ (tD (rI k) (k.wrap (m*2^(min n.toNat k.bits)))):=
 Gb V hy (fun _ _=>by simp [binOp,Op.shift,Int.not_lt.2 h0]) (fun _=>dq.2 rfl)
def yZ(V:aI E.N G x (tD (rI k) m))(hy:aI E.N G y (tD (rI k') n))(h0:0<=n):b9 E O G ⟨dst,.binOp .shr xt x y yt,ty,pos,after,g⟩ (tD (rI k) (m.fdiv (2^(min n.toNat k.bits)))):=
 Gb V hy (fun _ _=>by simp [binOp,Op.shift,Int.not_lt.2 h0]) (fun _=>dq.2 rfl)
def Rl(V:aI E.N G x (tD (rI k) m)):b9 E O G ⟨dst,.unOp .xor xt x,ty,pos,after,g⟩ (tD (rI k) (qh .xor k (if k.signed then -1 else k.max) m)):=
 .of_pure fun a w S _ _ hf=>by
  have Y:a.eval x= .int k m:=dq.1 (V S a hf)
  exact⟨_,by simp [execOp,Y,Op.unary,Op.intBits];rfl,dq.2 rfl⟩
def fH(V:aI E.N G x (tD rB b)):b9 E O G ⟨dst,.unOp .not xt x,ty,pos,after,g⟩ (tD rB (!b)):=
 .of_pure fun a w S _ _ hf=>by
  have Y:a.eval x= .bool b:=ie.1 (V S a hf)
  exact⟨.bool (!b),by simp [execOp,Y,Op.unary],ie.2 rfl⟩
def eP{st dt:TypeId}{aN:TypeDesc}(hs:E.P.underlying st=some aN)(hd:E.P.underlying dt=some (.int k'))(V:aI E.N G x (tD (rI k) m)):
  b9 E O G ⟨dst,.convert st dt x,ty,pos,after,g⟩ (tD (rI k') (k'.wrap m)):=
 .of_pure fun a w S _ _ hf=>by
  have Y:a.eval x= .int k m:=dq.1 (V S a hf)
  refine⟨.int k' (k'.wrap m),?_,dq.2 rfl⟩
  simp only [execOp,Y,convert,rl,iv hs,iv hd,sF]
  cases aN<;>simp [Conv.intToInt]
end

def yU{P:Program}{t:TypeId}(D:P.underlying t=some .bool)(aN:Nat)(b c:Bool)(w:World):(Op.equalIn (aN+1) t (.bool b) (.bool c)).run P w= .ok (b==c) w:=by
 simp [Op.equalIn,iv D]
def xF{P:Program}{t:TypeId}{x y:Value}(W: ∀aN,(Op.equalIn (aN+1) t x y).run P w= .ok b w):(Op.equal t x y).run P w= .ok b w:=W 9999
section
def EC{c:Bool}(D:E.P.underlying xt=some .bool)(V:aI E.N G x (tD rB b))(hy:aI E.N G y (tD rB c)):b9 E O G ⟨dst,.binOp .eql xt x y yt,ty,pos,after,g⟩ (tD rB (b==c)):=
 .of_pure fun a w S _ _ hf=>by
  have Y:a.eval x= .bool b:=ie.1 (V S a hf)
  have H:a.eval y= .bool c:=ie.1 (hy S a hf)
  exact⟨.bool (b==c),by simp [execOp,Y,H,eqGuard,binOp,xF (fun aN=>yU D aN b c w)],ie.2 rfl⟩
def Rj{op:BinOp}{u:NL}(V:aI E.N G x (tD rS ae))(hy:aI E.N G y (tD rS u))(hv: ∀P w,(Op.stringOp op ⟨ae.toArray⟩ ⟨u.toArray⟩).run P w= .ok (.bool b) w)(X: ∀P w,(eqGuard op xt x y (.string ⟨ae.toArray⟩) (.string ⟨u.toArray⟩)).run P w= .ok () w)(W: ∀P w,(binOp op xt (.string ⟨ae.toArray⟩) (.string ⟨u.toArray⟩)).run P w=(Op.stringOp op ⟨ae.toArray⟩ ⟨u.toArray⟩).run P w):
  b9 E O G ⟨dst,.binOp op xt x y yt,ty,pos,after,g⟩ (tD rB b):=
 .of_pure fun a w S _ _ hf=>by
  have Y:a.eval x= .string ⟨ae.toArray⟩:=yP.1 (V S a hf)
  have H:a.eval y= .string ⟨u.toArray⟩:=yP.1 (hy S a hf)
  refine⟨.bool b,?_,ie.2 rfl⟩
  simp [execOp,Y,H,X,W,hv]
def OJ{u:NL}(V:aI E.N G x (tD rS ae))(hy:aI E.N G y (tD rS u)):b9 E O G ⟨dst,.binOp .eql xt x y yt,ty,pos,after,g⟩ (tD rB (ae==u)):=
 Rj V hy (fun _ _=>by simp [Op.stringOp]) (fun _ _=>rfl) (fun _ _=>rfl)
end
end

def MS:TypeDesc->Bool
 | .struct _| .array _ _=>true
 |_=>false
structure TI(P:Program)(T:TypeId)(sz bytes:Nat)(agg:Bool)(z:List Value):Prop where
 info:(P.info? T).map (fun i=>(i.zero.map (·.cells.toList),i.size,i.bytes))=some (some z,sz,bytes)
 ag:(P.underlying T).map MS=some agg
variable{T:TypeId}{bytes:Nat}{z:List Value}
section
variable{P:Program}{sz:Nat}{agg:Bool}
def TI.get(h:TI P T sz bytes agg z): ∃i zv,P.info? T=some i/\i.size=sz/\i.bytes=bytes/\i.zero=some zv/\zv.cells=z.toArray:=by
 have:=h.info
 cases hi:P.info? T with
 |none=>rw [hi]at this;simp at this
 |some i=>
  rw [hi]at this
  simp only [uk,Option.some.injEq,Prod.mk.injEq,Cq]at this
  obtain⟨⟨zv,Y,H⟩,Q,h4⟩:=this
  exact⟨i,zv,rfl,Q,h4,Y,by rw [<-H]⟩
def TI.sizeOf(h:TI P T sz bytes agg z)(w:World):(Go.sizeOf T).run P w= .ok sz w:=by
 obtain⟨i,zv,Y,H,_⟩:=h.get
 simp [Go.sizeOf,typeInfo,Y,H]
def TI.isAgg(h:TI P T sz bytes agg z)(w:World):(Go.isAgg T).run P w= .ok agg w:=by
 have:=h.ag
 cases hi:P.underlying T with
 |none=>rw [hi]at this;simp at this
 |some aN=>
  rw [hi]at this
  simp only [uk,Option.some.injEq]at this
  simp only [Go.isAgg,rl,iv hi,sF]
  rw [<-this]
  cases aN<;>simp [MS]
def TI.zero(h:TI P T sz bytes agg z)(w:World): ∃zv,(zeroValue T).run P w= .ok zv w/\zv.cells=z.toArray:=by
 obtain⟨i,zv,Y,_,_,h4,h5⟩:=h.get
 exact⟨zv,by simp [zeroValue,typeInfo,Y,h4],h5⟩
end

def hZ(b off i:Nat):(⟨b,off,none⟩:Addr).add i=⟨b,off+i,none⟩:=by
 unfold Addr.add
 split
 ·simp_all
 ·rfl
def tX{b:Nat}{c:Array Value}(h:w.heap[b]? =some (.cells c T fr))(i:Nat):w.cell? ⟨b,i,none⟩=c[i]? :=by
 simp [World.cell?,h]
def sK{P:Program}{b n:Nat}{c:Array Value}(h:w.heap[b]? =some (.cells c T fr))(hcs:(c.toList.drop off).take n=cs)(hl:cs.length=n):
  (loadCells ⟨b,off,none⟩ n).run P w= .ok cs.toArray w:=by
 rw [<-hl]
 refine run_loadCells_list w ⟨b,off,none⟩ cs fun j v hv=>?_
 rw [hZ,tX h]
 have hj:j<cs.length:=(pZ.1 hv).1
 rw [<-hcs,vX (by omega),tk]at hv
 simpa using hv
variable{U:TypeId}{rest:List Oper}
def jF{P:Program}{b:Nat}{c:Array Value}{sz:Nat}{agg:Bool}(ti:TI P U sz bytes agg z)(h:w.heap[b]? =some (.cells c T fr)){r:Rp α}(hsz:r.sz=sz)(hag:r.agg=agg){x:α}(V:r.rc S ((c.toList.drop off).take r.sz) x):
  (loadVar U ⟨b,off,none⟩).run P w= .ok (r.val ((c.toList.drop off).take r.sz)) w:=by
 have hl:=r.len V
 subst hsz
 subst hag
 simp only [loadVar,rl,ti.isAgg,sF]
 cases ha:r.agg with
 |true=>simp [ti.sizeOf,sK h rfl hl,Rp.val,ha]
 |false=>
  have Y:=r.sc ha
  have hcell:w.cell? ⟨b,off,none⟩=some (((c.toList.drop off).take r.sz).headD undef):=by
   rw [tX h]
   rw [Y]at hl ⊢
   cases hd:c.toList.drop off with
   |nil=>rw [hd]at hl;simp at hl
   |cons v rest=>
    have:(c.toList.drop off)[0]? =some v:=by rw [hd];rfl
    rw [tk]at this
    simpa using this
  simp [hcell,Rp.val,ha]

variable{ats:Array TypeId}{q:Rp β}
section
variable{E:En}{ty:TypeId}
def jn{r:Rp α}{x:α}{p:Operand}{sz:Nat}{agg:Bool}(ti:TI E.P U sz bytes agg z)(hsz:r.sz=sz)(hag:r.agg=agg)(hp:aI E.N G p (cH r x)):
  b9 E O G ⟨dst,.load U p,ty,pos,after,g⟩ (tD r x):=
 .of_pure fun a w S hs _ hf=>by
  obtain⟨b,off,c,T,fr,Y,H,Q⟩:=hp S a hf
  obtain⟨c',h4,h5⟩:=hs.part H (r.len Q)
  rw [<-h5]at Q
  refine⟨r.val ((c'.toList.drop off).take r.sz),?_,_,rfl,Q⟩
  simp [execOp,Y,Instr.loadAt,Instr.sureAddr,jF ti h4 hsz hag Q]

def PQ(ae:NL):(ByteArray.mk ae.toArray).size=ae.length:=by simp [ByteArray.size]
def ld{r:Rp α}{t:TypeId}(D:E.P.underlying t=some (.slice e))(V:aI E.N G x (tD (gr r) xs)):
  b9 E O G ⟨dst,.call ⟨.builtin .len,#[x],#[t]⟩,ty,pos,after,g⟩ (tD (rI .i64) (xs.length:Int)):=
 .of_pure fun a w S _ _ hf=>by
  obtain⟨ad,cap,Y,_⟩:=jR.1 (V S a hf)
  refine⟨.int .i64 xs.length,?_,dq.2 rfl⟩
  simp [execOp,resolve,invoke,builtin,Builtin.len_,iv D,Y,goInt]
def JA{t:TypeId}(D:E.P.underlying t=some .string)(V:aI E.N G x (tD rS ae)):
  b9 E O G ⟨dst,.call ⟨.builtin .len,#[x],#[t]⟩,ty,pos,after,g⟩ (tD (rI .i64) (ae.length:Int)):=
 .of_pure fun a w S _ _ hf=>by
  have Y:a.eval x= .string ⟨ae.toArray⟩:=yP.1 (V S a hf)
  refine⟨.int .i64 ae.length,?_,dq.2 rfl⟩
  simp [execOp,resolve,invoke,builtin,Builtin.len_,iv D,Y,goInt,PQ]

def ga{α:Type}(xs:List α)(i:Int):Option α:=if 0<=i then xs[i.toNat]? else none
def eZ(xs:List α)(i:Nat):ga xs (i:Int)=xs[i]? :=by simp [ga]
def KA{r:Rp α}{a:Option Addr}(h:Db r S a xs){x:α}(V:xs[i]? =some x):
  ∃b off c T fr,a=some ⟨b,off,none⟩/\S b=some (.cells c T fr)/\r.rc S ((c.toList.drop (off+i*r.sz)).take r.sz) x:=by
 rcases h with rfl|⟨b,off,c,T,fr,e1,e2,e3⟩
 ·simp at V
 ·refine⟨b,off,c,T,fr,e1,e2,?_⟩
  have h:=xJ e3 V
  have hi:i<xs.length:=(pZ.1 V).1
  rw [wi,xm,sa]at h
  have:min r.sz (xs.length*r.sz-i*r.sz)=r.sz:=by
   rw [<-Nat.sub_mul]
   have:1*r.sz<=(xs.length-i)*r.sz:=xu _ (by omega)
   omega
  rw [this]at h
  exact h
def tE{r:Rp α}{y:α}{ix:Operand}{t:TypeId}{k:IntKind}{i:Int}{sz:Nat}{agg:Bool}(D:E.P.underlying t=some (.slice e))(ti:TI E.P e sz bytes agg z)(hsz:r.sz=sz)(V:aI E.N G x (tD (gr r) xs))(hi:aI E.N G ix (tD (rI k) i))(hy:ga xs i=some y):
  b9 E O G ⟨dst,.indexAddr t x ix,ty,pos,after,g⟩ (cH r y):=
 .of_pure fun a w S _ _ hf=>by
  obtain⟨ad,cap,Y,_,_,H⟩:=jR.1 (V S a hf)
  have Q:a.eval ix= .int k i:=dq.1 (hi S a hf)
  have h0:0<=i:=by unfold ga at hy;split at hy;assumption;cases hy
  have hy' :xs[i.toNat]? =some y:=by unfold ga at hy;rw [bu h0]at hy;exact hy
  have hlt:i.toNat<xs.length:=(pZ.1 hy').1
  obtain⟨b,off,c,T,fr,e1,e2,e3⟩:=KA H hy'
  subst e1
  refine⟨.pointer (some ⟨b,off+i.toNat*r.sz,none⟩),?_,b,_,c,T,fr,rfl,e2,e3⟩
  have hc:0<=i/\i<(xs.length:Int):=⟨h0,by omega⟩
  simp [execOp,Y,Q,Instr.indexAt,asIntOf,iv D,hc,ti.sizeOf,hZ,hsz]

def j6{α β:Type}(r:Rp α)(off:Nat)(q:Rp β)(get:α->β):Prop:= ∀S cs x,r.rc S cs x->q.rc S ((cs.drop off).take q.sz) (get x)
def bv(P:Program)(T:TypeId)(i:Nat):Option (Nat×Nat):=
 match P.underlying T with
 |some (.struct fs)=>(fs[i]?).bind fun f=>(P.info? f.type).map fun q=>(f.offset,q.size)
 |_=>none
def Dj{P:Program}{sz:Nat}(h:bv P T i=some (off,sz)): ∃fs f,P.underlying T=some (.struct fs)/\fs[i]? =some f/\f.offset=off/\ ∀w,(sizeOf f.type).run P w= .ok sz w:=by
 unfold bv at h
 split at h
 ·rename_i fs hu
  cases hf:fs[i]? with
  |none=>rw [hf]at h;simp at h
  |some f=>
   rw [hf]at h
   cases hq:P.info? f.type with
   |none=>simp [hq]at h
   |some q=>
    simp [hq]at h
    exact⟨fs,f,hu,hf,h.1,fun w=>by simp [sizeOf,typeInfo,hq,h.2]⟩
 ·cases h
def gG{r:Rp α}{get:α->β}{x:α}{sz:Nat}{p:Operand}(hf:bv E.P T i=some (off,sz))(h0:Nat.beq sz 0=false)(hq:j6 r off q get)(hoff:Nat.ble (off+q.sz) r.sz=true)(hp:aI E.N G p (cH r x)):b9 E O G ⟨dst,.fieldAddr T p i,ty,pos,after,g⟩ (cH q (get x)):=
 .of_pure fun a w S _ _ hF=>by
  obtain⟨b,o,c,U,fr,Y,H,Q⟩:=hp S a hF
  obtain⟨fs,f,e1,e2,e3,e4⟩:=Dj hf
  have h0' :sz≠0:=fun e=>by subst e;simp at h0
  have hoff' :off+q.sz<=r.sz:=pN hoff
  refine⟨.pointer (some ⟨b,o+off,none⟩),?_,b,_,c,U,fr,rfl,H,?_⟩
  ·simp [execOp,Y,Instr.fieldAt,iv e1,e2,Instr.sureAddr,fieldPlace,e4,h0',e3,hZ]
  ·have:=hq S _ x Q
   rw [wi,xm,sa,uz (by omega)]at this
   exact this
def ak(P:Program)(f:FuncId):Bool:=
 match P.funcs[f]? with
 |some fn=> !(fn.name== "runtime.NumGoroutine")&&fn.body.isSome
 |none=>false
def gA{P:Program}(h:ak P f=true)(args:Array Value)(w:World):(callFunc f args).run P w= .ok (.enter f args) w:=by
 unfold ak at h
 cases hf:P.funcs[f]? with
 |none=>rw [hf]at h;cases h
 |some fn=>
  rw [hf]at h
  simp only [iO,Cm]at h
  have Y:fn.name≠ "runtime.NumGoroutine" :=by simpa using h.1
  have H:fn.body≠none:=fun e=>by rw [e]at h;simp at h
  simp [callFunc,hf,Y,H]
def js(N:Fr)(G:kN):List Operand->List Ty->Prop
 |[],[]=>True
 |x::xs,t::ts=>aI N G x t/\js N G xs ts
 |_,_=>False
def js.tys{N:Fr}(hF:bR N S a G): ∀{xs:List Operand} {ts:List Ty},js N G xs ts->uw S ts (xs.map a.eval)
 |[],[],_=>trivial
 |_::_,_::_,⟨Y,H⟩=>⟨Y S a hF,js.tys hF H⟩
def c7{xs:List Operand}(hc:ak E.P f=true)(hs:dy E.P f ts t)(V:js E.N G xs ts):
  b9 E O G ⟨dst,.call ⟨.value (.func f),xs.toArray,ats⟩,ty,pos,after,g⟩ t:=fun a w S hS _ hF=>by
 have hr:(execOp a.eval ⟨dst,.call ⟨.value (.func f),xs.toArray,ats⟩,ty,pos,after,g⟩).run E.P w= .ok (.enter f (xs.map a.eval).toArray) w:=by
  simp [execOp,resolve,Act.eval,Deferred.ofValue,invoke,gA hc]
 refine⟨fun c h=>(by cases h),?_⟩
 rw [hr]
 exact(hs w S _ hS (V.tys hF)).mono fun e w' ⟨v,S',he,Y,H,Q⟩=>⟨v,he,v,S',rfl,Y,H,Q⟩
end

def lY{o:Obj}(h:k<w.heap.size):(w.alloc o).heap[k]? =w.heap[k]? :=RowKit.Below.heap_alloc w o k h
def SH.set(S:SH)(b:Nat)(o:Obj):SH:=fun k=>if k=b then some o else S k
def lA(S:SH)(b:Nat)(o:Obj):S.set b o b=some o:=bu rfl
def py(S:SH){b:Nat}(o:Obj)(h:k≠b):S.set b o k=S k:=aZ h
def s6{b:Nat}{o:Obj}(h: ∀q,S b=some q->Fa q o):SH.le S (S.set b o):=fun k q hq=>by
 by_cases hk:k=b
 ·subst hk;exact⟨o,lA _ _ _,h q hq⟩
 ·exact⟨q,by rw [py _ _ hk];exact hq,qY q⟩
def kV.set(h:kV w S){b:Nat}{o:Obj}(Y:w.heap[b]? =some o')(H:Fa o o')(Q: ∀q,S b=some q->Fa q o):kV w (S.set b o):=by
 refine⟨fun k q hq=>?_,fun p hp=>?_,fun w' hw' =>h.tb w' fun k q hq=>?_⟩
 ·by_cases hk:k=b
  ·subst hk
   rw [lA]at hq
   cases hq
   exact⟨o',Y,H⟩
  ·rw [py _ _ hk]at hq;exact h k q hq
 ·obtain⟨c,T,fr,g1,g2⟩:=h.gl p hp
  by_cases hk:p.1=b
  ·subst hk
   obtain⟨aN,hd⟩:=Q _ g1
   refine⟨_,T,fr,by rw [lA,hd],?_⟩
   rw [List.toList_toArray,z1 ?_]
   ·exact g2
   ·have:=congrArg List.length g2
    rw [As]at this
    omega
  ·exact⟨c,T,fr,by rw [py _ _ hk];exact g1,g2⟩
 ·by_cases hk:k=b
  ·subst hk
   obtain⟨o1,g1,g2⟩:=hw' k o (lA _ _ _)
   exact⟨o1,g1,Dv (Q q hq) g2⟩
  ·exact hw' k q (by rw [py _ _ hk];exact hq)
def iG(o:Obj)(hs:kV w S):jc rn w S (w.alloc o) S/\kV (w.alloc o) S/\S w.heap.size=none:=by
 refine⟨⟨rfl,rfl,rfl,jW _,by simp,fun k hk _=>lY hk,SH.le_refl _,fun _ _ _=>rfl⟩,hs.same fun b q W=>lY (hs.lt W),?_⟩
 cases h:S w.heap.size with
 |none=>rfl
 |some q=>have:=hs.lt h;omega
def rZ(o:Obj)(hs:kV w S):jc rn w S (w.alloc o) (S.set w.heap.size o)/\kV (w.alloc o) (S.set w.heap.size o):=by
 obtain⟨Y,H,Q⟩:=iG o hs
 refine⟨⟨rfl,rfl,rfl,jW _,by simp,fun k hk _=>lY hk,s6 fun q hq=>(by rw [Q]at hq;cases hq),fun k hk _=>py _ _ (by omega)⟩,H.set (Aq w o) (qY o) fun q hq=>by rw [Q]at hq;cases hq⟩
def vw(hs:kV w S):jc rn w S w.drew S/\kV w.drew S:=⟨⟨rfl,rfl,rfl,Nat.le_succ _,jW _,fun _ _ _=>rfl,SH.le_refl _,fun _ _ _=>rfl⟩,hs.same fun _ _ _=>rfl⟩

def an(l:Option Nat)(cap n:Nat):Value:=
 match l with
 |none=> .slice none 0 0
 |some b=> .slice (some ⟨b,0,none⟩) n cap
def wA(w:World)(T:TypeId)(sz:Nat)(l:Option Nat)(cap n:Nat)(cells:List Value):Prop:=
 match l with
 |none=>n=0/\cells=[]
 |some b=> ∃cur,w.heap[b]? =some (.cells cur T (0,0))/\n<=cap/\cap<=maxLen/\cur.size=cap*sz/\cur.toList.take (n*sz)=cells
def xj{α:Type}(m:Bool)(r:Rp α)(T:TypeId)(l:Option Nat)(cap:Nat)(xs:List α)(w:World)(S:SH):Prop:=
 ∃cells,wA w T r.sz l cap xs.length cells/\o4 r S cells xs/\ ∀b,l=some b->S b=if m then some (.cells cells.toArray T (0,0))else none
def wA.lt{sz b n:Nat}(h:wA w T sz (some b) cap n cells):b<w.heap.size:=by
 obtain⟨cur,Y,_⟩:=h
 exact(D9.1 Y).1
def wA.ext{sz n:Nat}(h:wA w T sz l cap n cells)(k: ∀b,l=some b->w'.heap[b]? =w.heap[b]?):wA w' T sz l cap n cells:=by
 cases l with
 |none=>exact h
 |some b=>
  obtain⟨cur,Y,H⟩:=h
  exact⟨cur,by rw [k b rfl];exact Y,H⟩
def kP{α:Type}(m:Bool)(r:Rp α)(T:TypeId)(l:Option Nat)(cap:Nat)(xs:List α):OE where
 fp:=fun k=>l=some k
 p:=xj m r T l cap xs
 here:=by
  intro w S h k hk
  subst hk
  obtain⟨cells,Y,_⟩:=h
  exact Y.lt
 kept:=by
  intro C w w' S S' h k hC
  obtain⟨cells,Y,H,Q⟩:=h
  refine⟨cells,Y.ext fun b W=>?_,pQ k.keep H,fun b W=>?_⟩
  ·subst W;exact k.heap b Y.lt (hC b rfl)
  ·subst W;rw [k.old b Y.lt (hC b rfl)];exact Q b rfl
abbrev cM{α:Type}(r:Rp α)(T:TypeId)(l:Option Nat)(cap:Nat)(xs:List α):OE:=kP false r T l cap xs
abbrev tip{α:Type}(r:Rp α)(T:TypeId)(l:Option Nat)(cap:Nat)(xs:List α):OE:=kP true r T l cap xs
def jb{α:Type}(xs ys:List α):Option (List α):=if xs.length+ys.length<=68719476736 then some (xs++ys)else none
variable{zs:List α}
def NI(h:jb xs ys=some zs):zs=xs++ys/\xs.length+ys.length<=68719476736:=by
 unfold jb at h
 split at h
 ·exact⟨by simpa using h.symm,by assumption⟩
 ·cases h
variable{news:List Value}
def v8{P:Program}{t tx ty:TypeId}{i:TypeInfo}(D:P.underlying t=some (.slice e))(hi:P.info? e=some i){g sLen sCap:Nat}{cur:Array Value}(X:w.heap[g]? =some (.cells cur e (0,0))){x:Value}{n:Nat}(hs:Src P i.size tx x n news w)(hroom:sLen+n<=sCap)(hfit:sLen*i.size+news.length<=cur.size):
  (Builtin.append_ #[t,tx] ty #[.slice (some ⟨g,0,none⟩) sLen sCap,x]).run P w=
   .ok (.slice (some ⟨g,0,none⟩) (sLen+n) sCap) (w.setRow g (cur.toList.take (sLen*i.size)++news++cur.toList.drop (sLen*i.size+news.length)).toArray):=by
 have hst:=run_storeCells_at P g (sLen*i.size) e news 0 cur w X (by simpa using hfit) hs.one
 simp only [zr]at hst
 rcases hs.kind with⟨e',hk⟩|hk<;>simp [Builtin.append_,iv D,iv hk,sizeOf,typeInfo,hi,hs.len,hroom,hs.cells,Addr.add_lit,hst]
structure QG(l:Option Nat)(w w' :World):Prop where
 os:w'.os=w.os
 tape:w'.tape=w.tape
 output:w'.output=w.output
 drawn:w.drawn<=w'.drawn
 size:w.heap.size<=w'.heap.size
 heap: ∀k,k<w.heap.size->l≠some k->w'.heap[k]? =w.heap[k]?
variable{t' :TypeId}
def A8{P:Program}{t ty:TypeId}{sz:Nat}{agg:Bool}{n m:Nat}{x:Value}(ti:TI P T sz bytes agg z)(hz:Nat.beq z.length sz=true)(h0:Nat.blt 0 sz=true)(h128:Nat.ble bytes 2048=true)(D:P.underlying t=some (.slice T))(h:wA w T sz l cap n cells)(hs:Src P sz t' x m news w)(hlen:n+m<=68719476736):
  ∃l' cap' w',(Builtin.append_ #[t,t'] ty #[an l cap n,x]).run P w= .ok (an l' cap' (n+m)) w' /\wA w' T sz l' cap' (n+m) (cells++news)/\QG l w w' /\(∀b,l' =some b->l=some b\/w.heap.size<=b)/\(∀b,l=some b->l' ≠some b->w'.heap[b]? =w.heap[b]?):=by
 obtain⟨i,zv,hi,Y,H,Q,h4⟩:=ti.get
 have h128' :=pN h128
 have h0' :0<sz:=by simpa [r0] using h0
 have hz2:z.length=sz:=nk hz
 subst Y
 have hnl:=hs.newsLen
 have hbytes:(n+m)*i.bytes<=140737488355328:=wh (Nat.mul_le_mul hlen (by omega:i.bytes<=2048)) (by omega)
 by_cases hm:m=0
 ·subst hm
  have hn0:news=[]:=sd (by simpa using hnl)
  subst hn0
  refine⟨l,cap,w,?_,by simpa using h,⟨rfl,rfl,rfl,jW _,jW _,fun _ _ _=>rfl⟩,fun b W=> .inl W,fun b _ _=>rfl⟩
  cases l with
  |none=>
   obtain⟨rfl,_⟩:=h
   exact run_append_nothing w t t' ty T i D hi none 0 0 (jW _) _ hs
  |some b=>
   obtain⟨cur,_,hle,_⟩:=h
   exact run_append_nothing w t t' ty T i D hi (some ⟨b,0,none⟩) n cap hle _ hs
 have RB: ∀old,old<n+m->Builtin.nextslicecap (n+m) old*i.bytes<=281474976710656:=fun old ho=>growslice_fits ho hbytes
 -- a new row
 have fresh: ∀(base:Option Addr) (olds:List Value),an l cap n= .slice base n cap->olds=cells->cap<n+m->(Builtin.firstCells i.size n (.slice base n cap)).run P w.drew= .ok olds.toArray w.drew->cells.length=n*i.size->
   ∃l' cap' w',(Builtin.append_ #[t,t'] ty #[an l cap n,x]).run P w= .ok (an l' cap' (n+m)) w' /\wA w' T i.size l' cap' (n+m) (cells++news)/\QG l w w' /\(∀b,l' =some b->l=some b\/w.heap.size<=b)/\(∀b,l=some b->l' ≠some b->w'.heap[b]? =w.heap[b]?):=by
  intro base olds hv he X hf hcl
  subst he
  have hr:=run_append_grow_src (P:=P) w t t' ty T i zv D hi Q base n cap olds hf x m news hs X (by omega) (RB cap X)
  have hge:=grownCap_ge w (n+m) cap T
  rw [<-hv]at hr
  refine⟨some w.heap.size,grownCap w (n+m) cap T,_,hr,⟨_,Aq w.drew _,hge,grownCap_le_maxLen _ _ _ _ (by simp only [maxLen];omega),?_,?_⟩,⟨rfl,rfl,rfl,Nat.le_succ _,by simp,fun k hk _=>?_⟩,fun b W=> .inr (xx (oy W)),fun b W _=>?_⟩
  ·have:(Builtin.zeroCells zv.cells (grownCap w (n+m) cap T-(n+m))).size=(grownCap w (n+m) cap T-(n+m))*i.size:=by
    rw [size_zeroCells,h4];simp [hz2]
   simp only [Array.size_append,CS,kO,hcl,hnl,this]
   rw [<-ux,<-ux]
   congr 1;omega
  ·have hl2:(olds++news).length=(n+m)*i.size:=by rw [kO,hcl,hnl,ux]
   rw [Array.toList_append,z1 (by simp only [List.toList_toArray];omega)]
   simp only [List.toList_toArray]
   exact sb (by omega)
  ·exact lY (w:=w.drew) hk
  ·cases l with
   |none=>cases W
   |some b0=>
    have hb' :b0=b:=oy W
    subst hb'
    exact lY (w:=w.drew) (wA.lt h)
 cases l with
 |none=>
  obtain⟨rfl,rfl⟩:=h
  have:=run_append_grow_src (P:=P) w t t' ty T i zv D hi Q none 0 0 [] (run_firstCells_none w.drew i.size 0 0 0) x m news hs (by omega) (by omega) (RB 0 (by omega))
  have hge:=grownCap_ge w (0+m) 0 T
  refine⟨some w.heap.size,grownCap w (0+m) 0 T,_,this,⟨_,Aq w.drew _,hge,grownCap_le_maxLen _ _ _ _ (by simp only [maxLen];omega),?_,?_⟩,⟨rfl,rfl,rfl,Nat.le_succ _,by simp,fun k hk _=>?_⟩,fun b W=> .inr (xx (oy W)),fun b W=>(by cases W)⟩
  ·have:(Builtin.zeroCells zv.cells (grownCap w (0+m) 0 T-(0+m))).size=(grownCap w (0+m) 0 T-(0+m))*i.size:=by
    rw [size_zeroCells,h4];simp [hz2]
   simp only [Array.size_append,CS,mz,hnl,this]
   rw [<-ux]
   congr 1;omega
  ·rw [Array.toList_append,z1 (by simp [hnl])]
   simp only [mz,uj]
   exact sb (by omega)
  ·exact lY (w:=w.drew) hk
 |some b=>
  obtain⟨cur,W,hle,hmax,hcs,hct⟩:=h
  have hcl:cells.length=n*i.size:=by
   rw [<-hct,As,Fc,hcs]
   exact uz (xu _ hle)
  by_cases hroom:n+m<=cap
  ·have hfit:n*i.size+news.length<=cur.size:=by rw [hnl,hcs,<-ux];exact xu _ hroom
   have hr:=v8 (t:=t) (tx:=t') (ty:=ty) D hi W hs hroom hfit
   refine⟨some b,cap,_,hr,⟨_,setRow_heap w b cur _ T _ W,hroom,hmax,?_,?_⟩,⟨rfl,rfl,rfl,jW _,by simp [World.setRow],fun k hk hkb=>setRow_other w b k _ (fun e=>hkb (by rw [e]))⟩,fun b' hb' => .inl hb',fun b' hb' hne=>absurd hb' hne⟩
   ·simp only [CS,kO,As,zX,Fc]
    omega
   ·rw [hct,ux,<-hnl,<-hcl,show cells.length+news.length=(cells++news).length from by simp]
    exact List.take_left
  ·refine fresh (some ⟨b,0,none⟩) cells rfl rfl (by omega) (run_firstCells_some w.drew i.size n ⟨b,0,none⟩ n cap cells hcl fun j v hv=>?_) hcl
   have hj:j<cells.length:=(pZ.1 hv).1
   have hcell:w.cell? ⟨b,j,none⟩=cur[j]? :=tX W j
   rw [hZ]
   show w.cell? ⟨b,0+j,none⟩=_
   rw [uj,hcell]
   rw [<-hct,vX (by omega)]at hv
   simpa using hv
def rx{P:Program}{r:Rp α}{e' :TypeId}(D:P.underlying t' =some (.slice e'))(hs:kV w S)(hv:(tD (gr r) ys).p S v): ∃news,Src P r.sz t' v ys.length news w/\o4 r S news ys:=by
 obtain⟨ad,c2,rfl,hcap,hmax,hsl⟩:=jR.1 hv
 rcases hsl with rfl|⟨b,off,c,U,fr,e1,e2,e3⟩
 ·refine⟨[],?_,rfl⟩
  cases ad with
  |none=>exact .ofNil w D c2
  |some a=>exact .ofSlice w D a 0 c2 [] (by simp) (fun j u hu=>by simp at hu) (fun u hu=>by cases hu)
 ·subst e1
  obtain⟨c',h4,h5⟩:=hs.part e2 (jl e3)
  refine⟨_,.ofSlice w D ⟨b,off,none⟩ ys.length c2 _ (jl e3) (fun j u hu=>?_) (vC e3),e3⟩
  rw [hZ,tX h4]
  rw [<-h5]at hu
  have hj:j<ys.length*r.sz:=by
   have:=(pZ.1 hu).1
   simp at this;omega
  rw [vX hj,tk]at hu
  simpa using hu
def lI(ae:NL):List Int:=ae.map fun b=>(b.toNat:Int)
def Dn{S:SH}: ∀ae:NL,o4 (rI .u8) S (ae.map fun b=>Value.int .u8 b.toNat) (lI ae)
 |[]=>rfl
 |b::ae=>⟨[.int .u8 b.toNat],_,rfl,rfl,Dn ae⟩
def HD{P:Program}(D:P.underlying t' =some .string)(hv:(tD rS ae).p S v): ∃news,Src P (rI .u8).sz t' v (lI ae).length news w/\o4 (rI .u8) S news (lI ae):=by
 have e:=yP.1 hv
 subst e
 refine⟨_,?_,Dn ae⟩
 have:=Src.ofString (P:=P) w D ⟨ae.toArray⟩
 have e1:(ByteArray.mk ae.toArray).size=(lI ae).length:=by simp [ByteArray.size,lI]
 rw [e1]at this
 simpa [byteCells,rI] using this
variable{mm:Bool}
def uK{P:Program}{r:Rp α}{t ty:TypeId}{sz:Nat}{agg:Bool}{base:Nat}{B:Nat->Prop}(ti:TI P T sz bytes agg z)(hsz:r.sz=sz)(hz:Nat.beq z.length sz=true)(h0:Nat.blt 0 sz=true)(h128:Nat.ble bytes 2048=true)(D:P.underlying t=some (.slice T))(hs:kV w S)(h:(kP mm r T l cap xs).holds base B w S)(W:base<=w.heap.size)(hsrc:Src P r.sz t' v ys.length news w)(hrc:o4 r S news ys)(hz' :jb xs ys=some zs):
  ∃l' cap' w' S',(Builtin.append_ #[t,t'] ty #[an l cap xs.length,v]).run P w= .ok (an l' cap' zs.length) w' /\jc (fun k=>l=some k) w S w' S' /\kV w' S' /\(kP mm r T l' cap' zs).holds base B w' S' /\(∀b,l' =some b->l=some b\/w.heap.size<=b):=by
 subst hsz
 obtain⟨rfl,hlen⟩:=NI hz'
 obtain⟨⟨cells,Y,H,Q⟩,hbase⟩:=h
 obtain⟨l',cap',w',hr,hraw,X,hnew,hold⟩:=A8 (ty:=ty) ti hz h0 h128 D Y hsrc hlen
 have hrc' :o4 r S (cells++news) (xs++ys):=pf H hrc
 -- what stood settled stands
 have hsat0: ∀k o,S k=some o-> ∃o',w'.heap[k]? =some o' /\Fa o o' :=fun k o hk=>by
  have hlt:=hs.lt hk
  by_cases hkl:l=some k
  ·obtain⟨o',e1,e2⟩:=hs k o hk
   by_cases hkl' :l' =some k
   ·subst hkl'
    subst hkl
    have h3' :=Q k rfl
    cases mm with
    |false=>rw [h3']at hk;cases hk
    |true=>
     rw [h3']at hk
     cases hk
     obtain⟨cur',g1,g2,g3,g4,g5⟩:=hraw
     refine⟨_,g1,?_⟩;refine⟨news++cur'.toList.drop ((xs.length+ys.length)*r.sz),?_⟩
     congr 1
     apply Array.ext'
     rw [<-oB,<-g5,qL]
   ·rw [hold k hkl hkl'];exact hs k o hk
  ·rw [X.heap k hlt hkl];exact hs k o hk
 have hsat:kV w' S:=⟨hsat0,hs.gl,hs.tb⟩
 have hSn: ∀b,l' =some b->l≠some b->S b=none:=fun b hb' hne=>by
  cases hq:S b with
  |none=>rfl
  |some q=>
   have:=hs.lt hq
   rcases hnew b hb' with h|h
   ·exact absurd h hne
   ·omega
 have hbase' : ∀k,l' =some k->base<=k\/B k:=fun k hk=>by
  rcases hnew k hk with h|h
  ·exact hbase k h
  ·exact .inl (by omega)
 have hz2:(xs++ys).length=xs.length+ys.length:=kO
 cases mm with
 |false=>
  refine⟨l',cap',w',S,by rw [hz2];exact hr,⟨X.os,X.tape,X.output,X.drawn,X.size,fun k hk hkb=>X.heap k hk hkb,SH.le_refl _,fun _ _ _=>rfl⟩,hsat,⟨⟨cells++news,by rw [hz2];exact hraw,hrc',fun b hb' =>?_⟩,hbase'⟩,hnew⟩
  by_cases hlb:l=some b
  ·exact Q b hlb
  ·exact hSn b hb' hlb
 |true=>
  cases l' with
  |none=>
   refine⟨none,cap',w',S,by rw [hz2];exact hr,⟨X.os,X.tape,X.output,X.drawn,X.size,fun k hk hkb=>X.heap k hk hkb,SH.le_refl _,fun _ _ _=>rfl⟩,hsat,⟨⟨cells++news,by rw [hz2];exact hraw,hrc',fun b hb' =>(by cases hb')⟩,hbase'⟩,hnew⟩
  |some g=>
   have hq3: ∀q,S g=some q->Fa q (.cells (cells++news).toArray T (0,0)):=fun q hq=>by
    by_cases hlb:l=some g
    ·have h4:S g=some (.cells cells.toArray T (0,0)):=Q g hlb
     rw [h4]at hq
     cases hq
     exact⟨news,by simp⟩
    ·rw [hSn g rfl hlb]at hq;cases hq
   have hle:SH.le S (S.set g (.cells (cells++news).toArray T (0,0))):=s6 hq3
   obtain⟨cur',g1,g2,g3,g4,g5⟩:=hraw
   refine⟨some g,cap',w',S.set g (.cells (cells++news).toArray T (0,0)),by rw [hz2];exact hr,⟨X.os,X.tape,X.output,X.drawn,X.size,fun k hk hkb=>X.heap k hk hkb,hle,fun k hk hkb=>py _ _ ?_⟩,hsat.set g1 ?_ hq3,⟨⟨cells++news,by rw [hz2];exact⟨cur',g1,g2,g3,g4,g5⟩,pQ hle hrc',fun b hb' =>?_⟩,hbase'⟩,hnew⟩
   ·rintro rfl
    rcases hnew k rfl with h|h
    ·exact hkb h
    ·omega
   ·refine⟨cur'.toList.drop ((xs.length+ys.length)*r.sz),?_⟩
    congr 1
    apply Array.ext'
    rw [<-g5,qL]
   ·have hb2:g=b:=oy hb'
    subst hb2
    exact lA _ _ _

def IY{e f:OE}(h:e.apart f):f.apart e:=fun b W he=>h b he W
def dL.swap{base:Nat}{B:Nat->Prop}{e f:OE}(h:dL base B w S (e::f::O)):dL base B w S (f::e::O):=by
 obtain⟨Y,H,Q,h4,h5⟩:=h
 refine⟨Q,?_,Y,?_,h5⟩
 ·intro g X
  rcases jy.1 X with rfl|X
  ·exact IY (H _ (nV ..))
  ·exact h4 g X
 ·intro g X
  exact H g (o8 _ X)
def s9{base:Nat}{B:Nat->Prop}{e:OE}{O' :List OE}(h:dL base B w S (e::O))(k:dL base B w S O->dL base B w S O')(hm: ∀f∈O',f∈O):dL base B w S (e::O'):=
 ⟨h.1,fun f hf=>h.2.1 f (hm f hf),k h.2.2⟩
def pz{base:Nat}{B:Nat->Prop}{a b c:OE}(h:dL base B w S (a::b::c::O)):dL base B w S (c::a::b::O):=
 (s9 h dL.swap (fun f hf=>by simp only [jy]at hf ⊢;rcases hf with h|h|h<;>simp [h])).swap
def ri{base:Nat}{B:Nat->Prop}{a b c aN:OE}(h:dL base B w S (a::b::c::aN::O)):dL base B w S (aN::a::b::c::O):=
 (s9 h pz (fun f hf=>by simp only [jy]at hf ⊢;rcases hf with h|h|h|h<;>simp [h])).swap
def t8{base:Nat}{B:Nat->Prop}{a b c aN e:OE}(h:dL base B w S (a::b::c::aN::e::O)):dL base B w S (e::a::b::c::aN::O):=
 (s9 h ri (fun f hf=>by simp only [jy]at hf ⊢;rcases hf with h|h|h|h|h<;>simp [h])).swap

section
variable{E:En}
def St.own_map{O' :List OE}(h:St E O G a w S)(k:dL E.base E.B w S O->dL E.base E.B w S O'):St E O' G a w S:=⟨h.ext,h.sat,k h.own,h.facts⟩
def St.base_le(h:St E O G a w S):E.base<=w.heap.size:=h.ext.size
def St.drop{e:OE}(h:St E (e::O) G a w S):St E O G a w S:=h.own_map fun h=>h.2.2
def St.fresh(mm:Bool)(r:Rp α)(T:TypeId)(h:St E O G a w S):St E (kP mm r T none 0 []::O) G a w S:=
 h.own_map fun h=>by refine⟨⟨⟨[],⟨rfl,rfl⟩,rfl,fun b W=>(by cases W)⟩,fun k hk=>?_⟩,fun f _ b W=>?_,h⟩<;>(first|cases hk|cases W)
def wO{e:OE}{b:Nat}{o:Obj}(h:St E (e::O) G a w S)(W:e.fp b)(ho:w.heap[b]? =some o')(hoo:Fa o o')(hn:S b=none):St E O G a w (S.set b o)/\SH.le S (S.set b o)/\jc (fun k=>k=b) w S w (S.set b o)/\kV w (S.set b o):=by
 have hbase:=h.own.1.2 b W
 have hle:SH.le S (S.set b o):=s6 fun q hq=>(by rw [hn]at hq;cases hq)
 have hsat:kV w (S.set b o):=h.sat.set ho hoo fun q hq=>by rw [hn]at hq;cases hq
 have hext:jc (fun k=>k=b) w S w (S.set b o):=⟨rfl,rfl,rfl,jW _,jW _,fun _ _ _=>rfl,hle,fun k _ hk=>py _ _ hk⟩
 refine⟨⟨h.ext.step hext fun c hc=>by subst hc;exact hbase,hsat,h.own.2.2.ext hext fun f hf c hc hm=>?_,h.facts.mono hle⟩,hle,hext,hsat⟩
 subst hm
 exact h.own.2.1 f hf c W hc
def tO{α:Type}(r:Rp α)(l:Option Nat)(cap:Nat)(xs:List α):Ty where
 p:=fun S v=>v=an l cap xs.length/\(tD (gr r) xs).p S v
 mono:=fun h ⟨Y,H⟩=>⟨Y,Ty.mono _ h H⟩
def z7{N:Fr}{G:kN}{r:Rp α}(h:aI N G x (tO r l cap xs)):aI N G x (K (an l cap xs.length)):=fun S a hf=>(h S a hf).1
def sf{N:Fr}{G:kN}{r:Rp α}(h:aI N G x (tO r l cap xs)):aI N G x (tD (gr r) xs):=fun S a hf=>(h S a hf).2
def lM{r:Rp α}{w:World}{S:SH}(h:xj true r T l cap xs w S):(tD (gr r) xs).p S (an l cap xs.length):=by
 obtain⟨cells,Y,H,Q⟩:=h
 cases l with
 |none=>
  have V:xs=[]:=sd Y.1
  subst V
  exact Ek
 |some b=>
  obtain⟨cur,g1,g2,g3,g4,g5⟩:=Y
  refine jR.2 ⟨_,cap,rfl,g2,g3,.inr ⟨b,0,cells.toArray,T,(0,0),rfl,Q b rfl,?_⟩⟩
  have:=jl H
  rw [Ar,sb (by simp [this])]
  exact H
def St.freeze{r:Rp α}(h:St E (cM r T l cap xs::O) G a w S):
  ∃S',St E (tip r T l cap xs::O) G a w S' :=by
 obtain⟨⟨cells,Y,H,Q⟩,hbase⟩:=h.own.1
 cases l with
 |none=>exact⟨S,h.ext,h.sat,⟨⟨⟨cells,Y,H,fun b W=>(by cases W)⟩,hbase⟩,h.own.2⟩,h.facts⟩
 |some b=>
  obtain⟨cur,g1,g2,g3,g4,g5⟩:=Y
  have hoo:Fa (.cells cells.toArray T (0,0)) (.cells cur T (0,0)):=by
   refine⟨cur.toList.drop (xs.length*r.sz),?_⟩
   congr 1
   apply Array.ext'
   rw [<-g5,qL]
  obtain⟨h8,hle,_,_⟩:=wO h rfl g1 hoo (Q b rfl)
  refine⟨_,h8.ext,h8.sat,⟨⟨⟨cells,⟨cur,g1,g2,g3,g4,g5⟩,pQ hle H,fun b' hb' =>?_⟩,hbase⟩,h.own.2.1,h8.own⟩,h8.facts⟩
  have hb2:b=b' :=oy hb'
  subst hb2
  exact lA _ _ _
def St.settle{r:Rp α}(h:St E (kP mm r T l cap xs::O) G a w S):
  ∃S',St E O G a w S' /\(tD (gr r) xs).p S' (an l cap xs.length):=by
 cases mm with
 |true=>exact⟨S,h.drop,lM h.own.1.1⟩
 |false=>
  obtain⟨S',Y⟩:=h.freeze
  exact⟨S',Y.drop,lM Y.own.1.1⟩
end

section
variable{E:En}{e:Exit}
def Iy{N:Fr}(h:bR N S a G)(hk:t.p S (a.tmps.getD k undef)):bR N S a ((k,t)::G):=
 ⟨h.size,h.defers,fun j u hj=>by
  unfold b8 at hj
  by_cases W:Nat.beq k j=true
  ·rw [W]at hj
   have:=nk W
   subst this
   rw [<-show t=u from by simpa using hj];exact hk
  ·rw [yH]at W
   rw [W]at hj
   exact h.at_ j u hj⟩
def St.cons(h:St E O G a w S)(hk:t.p S (a.tmps.getD k undef)):St E O ((k,t)::G) a w S:=⟨h.ext,h.sat,h.own,Iy h.facts hk⟩
def St.tipAt{r:Rp α}{n:Nat}(h:St E (tip r T l cap xs::O) G a w S)(hk:b8 G k=some (K (an l cap n)))(hn:n=xs.length):
  St E (tip r T l cap xs::O) ((k,tO r l cap xs)::G) a w S:=by
 subst hn
 have hv:a.tmps.getD k undef=an l cap xs.length:=h.facts.at_ k _ hk
 exact h.cons ⟨hv,by rw [hv];exact lM h.own.1.1⟩
def cz(mm:Bool)(r:Rp α)(T:TypeId)(h:RG E ops h3 rest (kP mm r T none 0 []::O) G):RG E ops h3 rest O G:=fun a w S st=>h a w S (st.fresh mm r T)
def yx{f:OE}(h:RG E ops h3 rest O G):RG E ops h3 rest (f::O) G:=fun a w S st=>h a w S st.drop
def CG.drop{f:OE}(h:CG E h3 c O G):CG E h3 c (f::O) G:=fun a w S st=>h a w S st.drop
def ba{f:OE}(h:AT E h3 e O G):AT E h3 e (f::O) G:=fun a w S st=>h a w S st.drop
def cu{x y:OE}(h:RG E ops h3 rest (y::x::O) G):RG E ops h3 rest (x::y::O) G:=fun a w S st=>h a w S (st.own_map dL.swap)
def aj{x y:OE}(h:AT E h3 e (y::x::O) G):AT E h3 e (x::y::O) G:=fun a w S st=>h a w S (st.own_map dL.swap)
def cL{x y z:OE}(h:RG E ops h3 rest (z::x::y::O) G):RG E ops h3 rest (x::y::z::O) G:=fun a w S st=>h a w S (st.own_map pz)
def LC{x y z:OE}(h:CG E h3 c (z::x::y::O) G):CG E h3 c (x::y::z::O) G:=fun a w S st=>h a w S (st.own_map pz)
def aG{x y z:OE}(h:AT E h3 e (z::x::y::O) G):AT E h3 e (x::y::z::O) G:=fun a w S st=>h a w S (st.own_map pz)
def qI{x y z:OE}(h:RG E ops h3 rest (u::x::y::z::O) G):RG E ops h3 rest (x::y::z::u::O) G:=fun a w S st=>h a w S (st.own_map ri)
def aK{x y z:OE}(h:AT E h3 e (u::x::y::z::O) G):AT E h3 e (x::y::z::u::O) G:=fun a w S st=>h a w S (st.own_map ri)
def j5{x y z v:OE}(h:RG E ops h3 rest (v::x::y::z::u::O) G):RG E ops h3 rest (x::y::z::u::v::O) G:=fun a w S st=>h a w S (st.own_map t8)
def mb{x y z v:OE}(h:AT E h3 e (v::x::y::z::u::O) G):AT E h3 e (x::y::z::u::v::O) G:=fun a w S st=>h a w S (st.own_map t8)
def qy{f:OE}(h:LG E h3 c O G):LG E h3 c (f::O) G:=fun a w S st=>h a w S st.drop
def fD{x y:OE}(h:LG E h3 c (y::x::O) G):LG E h3 c (x::y::O) G:=fun a w S st=>h a w S (st.own_map dL.swap)
def lu{x y z:OE}(h:LG E h3 c (z::x::y::O) G):LG E h3 c (x::y::z::O) G:=fun a w S st=>h a w S (st.own_map pz)
def fO{x y z:OE}(h:LG E h3 c (u::x::y::z::O) G):LG E h3 c (x::y::z::u::O) G:=fun a w S st=>h a w S (st.own_map ri)
def vS{r:Rp α}(h:RG E ops h3 rest (tip r T l cap xs::O) G):RG E ops h3 rest (cM r T l cap xs::O) G:=fun a w _ st=>let⟨S',st'⟩:=st.freeze;h a w S' st'
def s8{r:Rp α}{n:Nat}(k:Nat)(hk:b8 G k=some (K (an l cap n)))(h:RG E ops h3 rest (tip r T l cap xs::O) ((k,tO r l cap xs)::G))(hn:n=xs.length:=by rfl):RG E ops h3 rest (tip r T l cap xs::O) G:=fun a w S st=>h a w S (st.tipAt hk hn)
def LD{r:Rp α}(h:CG E h3 c (tip r T l cap xs::O) G):CG E h3 c (cM r T l cap xs::O) G:=fun a w _ st=>let⟨S',st'⟩:=st.freeze;h a w S' st'
def Ci{r:Rp α}{n:Nat}(k:Nat)(hk:b8 G k=some (K (an l cap n)))(h:CG E h3 c (tip r T l cap xs::O) ((k,tO r l cap xs)::G))(hn:n=xs.length:=by rfl):CG E h3 c (tip r T l cap xs::O) G:=fun a w S st=>h a w S (st.tipAt hk hn)
def df{r:Rp α}(h:AT E h3 e (tip r T l cap xs::O) G):AT E h3 e (cM r T l cap xs::O) G:=fun a w _ st=>let⟨S',st'⟩:=st.freeze;h a w S' st'
def bJ{r:Rp α}{n:Nat}(k:Nat)(hk:b8 G k=some (K (an l cap n)))(h:AT E h3 e (tip r T l cap xs::O) ((k,tO r l cap xs)::G))(hn:n=xs.length:=by rfl):AT E h3 e (tip r T l cap xs::O) G:=fun a w S st=>h a w S (st.tipAt hk hn)
def bt{r:Rp α}(hk:b8 G k=some (tD (gr r) xs))(h:xs.length<=maxLen->CG E h3 c O G):CG E h3 c O G:=fun a w S st=>by
 obtain⟨_,_,_,Y,H,_⟩:=jR.1 (st.facts.at_ k _ hk)
 exact h (wh Y H) a w S st

section
variable{ty:TypeId}
def St.append{r:Rp α}{t ty:TypeId}{sz:Nat}{agg:Bool}(ti:TI E.P T sz bytes agg z)(hsz:r.sz=sz)(hz:Nat.beq z.length sz=true)(h0:Nat.blt 0 sz=true)(h128:Nat.ble bytes 2048=true)(D:E.P.underlying t=some (.slice T))(st:St E (kP mm r T l cap xs::O) G a w S)(hsrc:Src E.P r.sz t' v ys.length news w)(hrc:o4 r S news ys)(happ:jb xs ys=some zs):
  ∃l' cap' w' S',(Builtin.append_ #[t,t'] ty #[an l cap xs.length,v]).run E.P w= .ok (an l' cap' zs.length) w' /\St E (kP mm r T l' cap' zs::O) G a w' S' :=by
 obtain⟨l',cap',w',S',hr,hext,hsat,hh,hnew⟩:=uK (ty:=ty) ti hsz hz h0 h128 D st.sat st.own.1 st.base_le hsrc hrc happ
 refine⟨l',cap',w',S',hr,st.ext.step hext fun b W=>st.own.1.2 b W,hsat,⟨hh,fun f hf b W hfb=>?_,st.own.2.2.ext hext fun f hf b W hbl=>st.own.2.1 f hf b hbl W⟩,st.facts.mono hext.keep⟩
 rcases hnew b W with h|h
 ·exact st.own.2.1 f hf b h hfb
 ·have:=f.here (dL.mem st.own.2.2 f hf).1 b hfb
  omega
def St.put{aN:Nat}(h:St E O G a w S)(hd:Nat.blt aN E.N.n=true)(hv:t.p S v):St E O ((aN,t)::G) (a.put (some aN) v) w S:=⟨h.ext,h.sat,h.own,h.facts.put hd hv⟩
def t7{r:Rp α}{t:TypeId}{sz:Nat}{agg:Bool}{n:Nat}{u:Nat->Option Nat->Ty}(ti:TI E.P T sz bytes agg z)(hsz:r.sz=sz)(hz:Nat.beq z.length sz=true)(h0:Nat.blt 0 sz=true)(h128:Nat.ble bytes 2048=true)(D:E.P.underlying t=some (.slice T))(hd:Nat.blt aN E.N.n=true)(V:aI E.N G x (K (an l cap n)))(hy: ∀a w S,St E (kP mm r T l cap xs::O) G a w S-> ∃news,Src E.P r.sz t' (a.eval y) ys.length news w/\o4 r S news ys)(happ:jb xs ys=some zs)(hu: ∀l' cap' w0 S,(kP mm r T l' cap' zs).p w0 S->(u cap' l').p S (an l' cap' zs.length))(k: ∀l' cap',RG E ops h3 rest (kP mm r T l' cap' zs::O) ((aN,u cap' l')::G))(hn:n=xs.length):
  RG E ops h3 (⟨some aN,.call ⟨.builtin .append,#[x,y],#[t,t']⟩,ty,pos,after,none⟩::rest) (kP mm r T l cap xs::O) G:= .of rfl fun a w S st=>by
 subst hn
 have Y:a.eval x=an l cap xs.length:=V S a st.facts
 obtain⟨news,H,Q⟩:=hy a w S st
 obtain⟨l',cap',w',S',hr,st'⟩:=st.append (ty:=ty) ti hsz hz h0 h128 D H Q happ
 have hrun:(execOp a.eval ⟨some aN,.call ⟨.builtin .append,#[x,y],#[t,t']⟩,ty,pos,after,none⟩).run E.P w= .ok (.value (an l' cap' zs.length)) w' :=by
  simp [execOp,resolve,invoke,builtin,Y,hr]
 refine⟨fun c h=>(by cases h),?_⟩
 rw [hrun]
 exact k l' cap' _ _ S' (st'.put hd (hu l' cap' w' S' st'.own.1.1))
def cU{r:Rp α}{t:TypeId}{sz:Nat}{agg:Bool}{n:Nat}(ti:TI E.P T sz bytes agg z)(hsz:r.sz=sz)(hz:Nat.beq z.length sz=true)(h0:Nat.blt 0 sz=true)(h128:Nat.ble bytes 2048=true)(D:E.P.underlying t=some (.slice T))(ht' :t' =t)(hd:Nat.blt aN E.N.n=true)(V:aI E.N G x (K (an l cap n)))(hy:aI E.N G y (tD (gr r) ys))(happ:jb xs ys=some zs)(k: ∀l' cap',RG E ops h3 rest (cM r T l' cap' zs::O) ((aN,K (an l' cap' zs.length))::G))(hn:n=xs.length:=by rfl):
  RG E ops h3 (⟨some aN,.call ⟨.builtin .append,#[x,y],#[t,t']⟩,ty,pos,after,none⟩::rest) (cM r T l cap xs::O) G:=by
 subst ht'
 exact t7 (u:=fun cap' l' =>K (an l' cap' zs.length)) ti hsz hz h0 h128 D hd V (fun a w S st=>rx D st.sat (hy S a st.facts)) happ (fun _ _ _ _ _=>rfl) k hn
def t6{r:Rp α}{t:TypeId}{sz:Nat}{agg:Bool}(ti:TI E.P T sz bytes agg z)(hsz:r.sz=sz)(hz:Nat.beq z.length sz=true)(h0:Nat.blt 0 sz=true)(h128:Nat.ble bytes 2048=true)(D:E.P.underlying t=some (.slice T))(ht' :t' =t)(hd:Nat.blt aN E.N.n=true)(V:aI E.N G x (tO r l cap xs))(hy:aI E.N G y (tD (gr r) ys))(happ:jb xs ys=some zs)(k: ∀l' cap',RG E ops h3 rest (tip r T l' cap' zs::O) ((aN,tO r l' cap' zs)::G)):
  RG E ops h3 (⟨some aN,.call ⟨.builtin .append,#[x,y],#[t,t']⟩,ty,pos,after,none⟩::rest) (tip r T l cap xs::O) G:=by
 subst ht'
 exact t7 (u:=fun cap' l' =>tO r l' cap' zs) ti hsz hz h0 h128 D hd (z7 V) (fun a w S st=>rx D st.sat (hy S a st.facts)) happ (fun _ _ _ _ h=>⟨rfl,lM h⟩) k rfl
def I2{t:TypeId}{agg:Bool}{n:Nat}{xs zs:List Int}(ti:TI E.P T 1 bytes agg z)(hz:Nat.beq z.length 1=true)(h128:Nat.ble bytes 2048=true)(D:E.P.underlying t=some (.slice T))(ht' :E.P.underlying t' =some .string)(hd:Nat.blt aN E.N.n=true)(V:aI E.N G x (K (an l cap n)))(hy:aI E.N G y (tD rS ae))(happ:jb xs (lI ae)=some zs)(k: ∀l' cap',RG E ops h3 rest (cM (rI .u8) T l' cap' zs::O) ((aN,K (an l' cap' zs.length))::G))(hn:n=xs.length:=by rfl):
  RG E ops h3 (⟨some aN,.call ⟨.builtin .append,#[x,y],#[t,t']⟩,ty,pos,after,none⟩::rest) (cM (rI .u8) T l cap xs::O) G:=
 t7 (r:=rI .u8) (u:=fun cap' l' =>K (an l' cap' zs.length)) ti rfl hz rfl h128 D hd V (fun a w S st=>HD ht' (hy S a st.facts)) happ (fun _ _ _ _ _=>rfl) k hn
end
end

def xY(off:Nat): ∀(cs:List Value) (k:Nat) (pre mid post:List Value),mid.length=cs.length->pre.length=off+k->
  (cs.zipIdx k).foldl (fun(a:Array Value) x=>a.setIfInBounds (off+x.2) x.1) (pre++mid++post).toArray=(pre++cs++post).toArray
 |[],k,pre,mid,post,hm,_=>by
  have:mid=[]:=sd hm
  subst this;simp
 |c::cs,k,pre,mid,post,hm,hp=>by
  cases mid with
  |nil=>simp at hm
  |cons m mid=>
   simp only [List.zipIdx_cons,List.foldl_cons]
   have Y:(pre++(m::mid)++post).toArray.setIfInBounds (off+k) c=((pre++[c])++mid++post).toArray:=by
    rw [<-hp]
    simp
   rw [Y,xY off cs (k+1) (pre++[c]) mid post (by simpa using hm) (by simp;omega)]
   simp
def xD(v:Value)(off:Nat)(pre mid post:List Value)(hm:mid.length=v.cells.size)(hp:pre.length=off):
  v.cells.zipIdx.foldl (fun cs (x:Value×Nat)=>cs.setIfInBounds (off+x.2) x.1) (pre++mid++post).toArray=(pre++v.cells.toList++post).toArray:=by
 have:=xY off v.cells.toList 0 pre mid post (by simpa using hm) (by simpa using hp)
 rw [<-this,<-Array.foldl_toList]
 simp [Array.toList_zipIdx]
def sI{r:Rp α}{x:α}(h:r.rc S cs x):(r.val cs).cells=cs.toArray:=by
 unfold Rp.val
 cases ha:r.agg with
 |true=>simp [Value.cells]
 |false=>
  have hl:=r.len h
  rw [r.sc ha]at hl
  match cs,hl with
  |[c],_=>
   have:=r.one h c (by simp)
   cases c<;>simp_all [Value.cells,Value.oneCell']
def zO:Nat->List Value->List (Nat×Value)
 |_,[]=>[]
 |k,v::vs=>(k,v)::zO (k+1) vs
def BC{α:Type}{r:Rp α}{S:SH}: ∀(ys:List α) (vs:List Value) (k:Nat) (pre zs:List Value),uw S (ys.map (tD r)) vs->pre.length=k*r.sz->zs.length=ys.length*r.sz->
  ∃cs,o4 r S cs ys/\Instr.fill (fun i=>some (i*r.sz,r.sz)) (pre++zs).toArray (zO k vs)=some (pre++cs).toArray
 |[],[],k,pre,zs,_,_,hz=>by
  have:zs=[]:=sd (by simpa using hz)
  subst this
  exact⟨[],rfl,by simp [zO,Instr.fill]⟩
 |y::ys,v::vs,k,pre,zs,⟨⟨c,e,hc⟩,H⟩,hp,hz=>by
  have hl:=r.len hc
  have hz' :r.sz<=zs.length:=by rw [hz,jj,ux];omega
  have e1:zs=zs.take r.sz++zs.drop r.sz:=(qL _ _).symm
  have hcells:v.cells=c.toArray:=by rw [e];exact sI hc
  obtain⟨cs,Q,h4⟩:=BC ys vs (k+1) (pre++c) (zs.drop r.sz) H (by rw [kO,hp,hl,ux];omega) (by rw [zX,hz,jj,ux];omega)
  refine⟨c++cs,⟨c,cs,rfl,hc,Q⟩,?_⟩
  have hs:v.cells.size=r.sz:=by rw [hcells];simpa using hl
  have hcond: ¬((v.cells.size≠r.sz)\/(k*r.sz+v.cells.size>(pre++zs).toArray.size)):=by
   simp [hs];omega
  have h5:=xD v (k*r.sz) pre (zs.take r.sz) (zs.drop r.sz) (by simp [hs];omega) hp
  rw [oB,<-e1]at h5
  simp only [zO,Instr.fill]
  rw [aZ (by simpa using hcond)]
  rw [h5,hcells]
  simpa using h4
def wy:Nat->List Operand->List (Nat×Operand)
 |_,[]=>[]
 |k,v::vs=>(k,v)::wy (k+1) vs
def zg(ρ:Operand->Value): ∀(k:Nat) (xs:List Operand),(wy k xs).map (fun x=>(x.1,ρ x.2))=zO k (xs.map ρ)
 |_,[]=>rfl
 |k,x::xs=>by simp [wy,zO,zg ρ (k+1) xs]

section
variable{E:En}{ty:TypeId}
def uJ{P:Program}{r:Rp α}{xs:List Operand}{ρ:Operand->Value}{t:TypeId}{n sz:Nat}{agg:Bool}(D:P.underlying t=some (.slice T))(ti:TI P T sz bytes agg z)(hsz:r.sz=sz)(hn:n=ys.length)(W:Nat.ble (n*sz) 16777216=true)(V:uw S (ys.map (tD r)) (xs.map ρ))(w:World):
  ∃cs,o4 r S cs ys/\(Instr.buildSlice t n ((wy 0 xs).toArray.map fun x=>(x.1,ρ x.2))).run P w= .ok (.slice (some ⟨w.heap.size,0,none⟩) n n) (w.alloc (.cells cs.toArray T (0,0))):=by
 subst hsz
 have hb' :=pN W
 obtain⟨zv,hzr,_⟩:=ti.zero w
 obtain⟨cs,hc,hfill⟩:=BC ys (xs.map ρ) 0 [] ((Array.range (n*r.sz)).map (fun i=>(if n*r.sz=0 then #[]else zv.cells)[i%(if n*r.sz=0 then #[]else zv.cells).size]!)).toList V (by simp) (by simp [hn])
 refine⟨cs,hc,?_⟩
 have hparts:((wy 0 xs).toArray.map fun x=>(x.1,ρ x.2)).toList=zO 0 (xs.map ρ):=by simp [zg]
 simp only [mz,Array.toArray_toList]at hfill
 have hle: ¬(n*r.sz>2^24):=by omega
 by_cases hn0:n*r.sz=0
 ·simp only [hn0,jY]at hfill
  simp only [Instr.buildSlice,rl,iv D,sF,ti.sizeOf,Sem.run_ite,hn0,jY,Sem.run_pure,hparts,hfill]
  simp [newRow]
 ·simp only [hn0,md]at hfill
  simp only [Instr.buildSlice,rl,iv D,sF,ti.sizeOf,Sem.run_ite,hle,md,hn0,Sem.run_pure,hzr,hparts,hfill]
  simp [newRow]
def aY{r:Rp α}{xs:List Operand}{parts:List (Nat×Operand)}{t:TypeId}{n sz:Nat}{agg:Bool}(D:E.P.underlying t=some (.slice T))(ti:TI E.P T sz bytes agg z)(hsz:r.sz=sz)(h0:Nat.blt 0 sz=true)(hp:parts=wy 0 xs)(hn:n=ys.length)(W:Nat.ble (n*sz) 16777216=true)(V:js E.N G xs (ys.map (tD r))):b9 E O G ⟨dst,.buildSlice t n parts.toArray,ty,pos,after,g⟩ (tD (gr r) ys):=
 .of_run fun a w S hs _ hf=>by
  obtain⟨cs,hc,hr⟩:=uJ D ti hsz hn W (V.tys hf) w
  subst hsz
  have hb' :=pN W
  have h0' :0<r.sz:=by simpa [r0] using h0
  have hnle:n<=n*r.sz:=Nat.le_mul_of_pos_right n h0'
  obtain⟨he,hs'⟩:=rZ (w:=w) (.cells cs.toArray T (0,0)) hs
  have hcl:=jl hc
  refine⟨.slice (some ⟨w.heap.size,0,none⟩) n n,_,_,?_,he,hs',jR.2 ⟨_,n,by rw [hn],by omega,by simp only [maxLen];omega,.inr ⟨w.heap.size,0,cs.toArray,T,(0,0),rfl,by simp [SH.set],?_⟩⟩⟩
  ·subst hp
   simp only [execOp,rl,hr,sF,Sem.run_pure]
  ·have:o4 r (S.set w.heap.size (.cells cs.toArray T (0,0))) cs ys:=pQ he.keep hc
   simpa [<-hcl] using this
def MF{r:Rp α}{v:α}(V:aI E.N G x (tD r v)):b9 E O G ⟨dst,.box T x,ty,pos,after,g⟩ (cH r v):=
 .of_run fun a w S hs _ hf=>by
  obtain⟨cs,hv,hc⟩:=V S a hf
  obtain⟨he,hs'⟩:=rZ (w:=w) (.cells cs.toArray T (0,0)) hs
  refine⟨.pointer (some ⟨w.heap.size,0,none⟩),_,_,?_,he,hs',w.heap.size,0,cs.toArray,T,(0,0),rfl,by simp [SH.set],?_⟩
  ·simp [execOp,Instr.box,newVar,newRow,hv,sI hc]
  ·have:=r.mono he.keep hc
   have hl:=r.len hc
   simpa [<-hl] using this
end

def m4(c:Bool)(t:Ty):Ty where
 p:=fun S v=>if c=true then t.p S v else v=undef
 mono:=fun h k=>by
  split
  ·rename_i hc;rw [bu hc]at k;exact t.mono h k
  ·rename_i hc;rw [aZ hc]at k;exact k
variable{gs:Nat}{pol:Bool}
section
variable{E:En}
def bC{N:Fr}{c:Bool}(h:b8 G k=some (m4 c t))(hc:c=true):aI N G (.tmp k) t:=fun _ _ hF=>by
 have H:if c=true then t.p _ (Act.eval _ (.tmp k))else _=undef:=hF.at_ k _ h
 rw [bu hc]at H;exact H
def rG(c b:Bool):Ty:=m4 c (tD rB b)
def oj(h:b8 G k=some (tD rB b)):aI E.N G (.tmp k) (rG true b):=fun _ _ hF=>by
 have H:(tD rB b).p _ (Act.eval _ (.tmp k)):=hF.at_ k _ h
 simp only [rG,m4,jY]
 exact H
def y6{c:Bool}(h:b8 G k=some (m4 c (tD rB b))):aI E.N G (.tmp k) (rG c b):=fun _ _ hF=>hF.at_ k _ h
def qP{c:Bool}(X:o.guard=some (j,pol))(hj:(ops[j]?).bind (·.dst)=some gs)(hn:gs<a.tmps.size)(hv:(rG c b).p S (a.tmps.getD gs undef)):
  Region.wanted o (yielded ops a.tmps)=(c&&(b==pol)):=by
 have hget:a.tmps[gs]? =some (a.tmps.getD gs undef):=by
  rw [Ea,Array.getElem?_eq_getElem hn];rfl
 unfold Region.wanted
 rw [X]
 simp only [yielded,hj,br,hget]
 cases c with
 |true=>
  have:a.tmps.getD gs undef= .bool b:=ie.1 (by simpa [rG,m4] using hv)
  rw [this]
  cases b<;>cases pol<;>rfl
 |false=>
  have:a.tmps.getD gs undef=undef:=by simpa [rG,m4] using hv
  rw [this]
  cases pol<;>rfl
def E3{c:Bool}{op:Op}{ty:TypeId}(hj:(ops[j]?).bind (·.dst)=some gs)(hgs:Nat.blt gs E.N.n=true)(X:aI E.N G (.tmp gs) (rG c b))(hd:Nat.blt aN E.N.n=true)(h:(c&&(b==pol))=true->b9 E O G ⟨some aN,op,ty,pos,after,some (j,pol)⟩ t)(k:RG E ops h3 rest O ((aN,m4 (c&&(b==pol)) t)::G)):
  RG E ops h3 (⟨some aN,op,ty,pos,after,some (j,pol)⟩::rest) O G:=fun a w S st=>by
 have hgs' :gs<a.tmps.size:=by rw [st.facts.size];simpa [r0] using hgs
 have hw:=qP (o:=⟨some aN,op,ty,pos,after,some (j,pol)⟩) rfl hj hgs' (X S a st.facts)
 refine wpListIn_step fun tV hK=>?_
 rw [hw]
 by_cases hc:(c&&(b==pol))=true
 ·rw [bu hc]
  refine j9 (fun a' w' ⟨v,S',ha,he,hs,hv⟩=>?_) (h hc a w S st.sat st.own st.facts)
  subst ha
  refine hK _ _ (k _ _ _ (st.step he hs hd ?_))
  simpa only [m4,hc,jY] using hv
 ·rw [aZ hc]
  refine⟨fun _ _=>trivial,hK _ _ (k _ _ S (st.step (ib _ _ _) st.sat hd ?_))⟩
  show if _ then _ else _
  rw [aZ hc]
end

structure Nd where
 slot:Nat
 ty:Ty
 src:Option Nat
def co(E:En)(O:List OE)(ops:Array Oper)(need:kN)(o:Oper)(t:Ty):Prop:=
 ∀a w S,kV w S->dL E.base E.B w S O->bR E.N S a need->
  if Region.wanted o (yielded ops a.tmps)then F8 E.P o a w (fun a' w' => ∃v S',a' =a.put o.dst v/\jc rn w S w' S' /\kV w' S' /\t.p S' v)else t.p S undef
def iD:List Nd->kN
 |[]=>[]
 |n::l=>(n.slot,n.ty)::iD l
def zA(o:Oper)(j:Nat):Bool:=o.after.toList.any fun e=>Nat.beq e.on j&&Region.binds .any e
def nm(l:List Oper)(o:Oper)(i:Nat)(n:Nd):Bool:=
 match n.src with
 |some j=>(match l[j]? with|some p=>(match p.dst with|some aN=>Nat.beq aN n.slot|none=>false)|none=>false)&&zA o j
 |none=>l.all fun p=>(match p.dst with|some aN=> !(Nat.beq aN n.slot)|none=>true)||zA p i
def we(G:kN)(ts:List Ty)(n:Nd):Prop:=
 match n.src with
 |some j=>ts[j]? =some n.ty
 |none=>b8 G n.slot=some n.ty
def pW(G:kN)(ts:List Ty):List Nd->Prop
 |[]=>True
 |n::l=>we G ts n/\pW G ts l
def pW.mem: ∀{l:List Nd},pW G ts l-> ∀n∈l,we G ts n
 |_::_,⟨h,_⟩,_,.head _=>h
 |_::_,⟨_,h⟩,_,.tail _ hm=>pW.mem h _ hm
def PL(o:Oper):Nat:=o.dst.getD 0
def dK(i:Nat)(o:Oper):Bool:=o.after.toList.all fun e=> !(Region.binds .any e)||Nat.blt e.on i
def DR(E:En)(O:List OE)(G:kN)(l:List Oper)(ts:List Ty):Nat->List Oper->Prop
 |_,[]=>True
 |i,o::rest=>(∃(needs:List Nd) (t:Ty),ts[i]? =some t/\pW G ts needs/\(needs.all (nm l o i))=true/\dK i o=true/\co E O l.toArray (iD needs) o t)/\DR E O G l ts (i+1) rest
def tu(N:Nat):List Nat->List Oper->Bool
 |_,[]=>true
 |seen,o::rest=>(match o.dst with|some aN=>Nat.blt aN N&& !(seen.any (Nat.beq aN))&&tu N (aN::seen) rest|none=>false)
def WS(E:En)(O:List OE)(G:kN)(l:List Oper)(ts:List Ty)(i:Nat)(o:Oper):Prop:=
 ∃(needs:List Nd) (t:Ty),ts[i]? =some t/\pW G ts needs/\(needs.all (nm l o i))=true/\dK i o=true/\co E O l.toArray (iD needs) o t
def DR.get{E:En}{l:List Oper}(r:List Oper): ∀(k:Nat),DR E O G l ts k r-> ∀(j:Nat) (o:Oper),r[j]? =some o->WS E O G l ts (k+j) o:=by
 induction r with
 |nil=>intro k _ j o h;simp at h
 |cons p r ih=>
  intro k h j o ho
  cases j with
  |zero=>simp at ho;subst ho;exact h.1
  |succ j=>
   have:=ih (k+1) h.2 j o (by simpa using ho)
   rwa [show k+1+j=k+(j+1)from by omega]at this
def uH{N:Nat}(l:List Oper): ∀(seen:List Nat),tu N seen l=true->
  (∀o:Oper,o∈l-> ∃aN,o.dst=some aN/\aN<N/\aN∉seen)/\ ∀(i j:Nat) (o p:Oper),l[i]? =some o->l[j]? =some p->o.dst=p.dst->i=j:=by
 induction l with
 |nil=>exact fun _ _=>⟨fun _ h=>(by cases h),fun _ _ _ _ h=>(by simp at h)⟩
 |cons o l ih=>
  intro seen h
  unfold tu at h
  cases hd:o.dst with
  |none=>rw [hd]at h;cases h
  |some aN=>
   rw [hd]at h
   simp only [iO,Cm]at h
   obtain⟨⟨Y,H⟩,Q⟩:=h
   have h2' :aN∉seen:=fun hm=>by
    rw [List.any_eq_false]at H
    exact H aN hm (by simp)
   obtain⟨ih1,ih2⟩:=ih _ Q
   refine⟨fun q hq=>?_,fun i j q p hi hj hdp=>?_⟩
   ·rcases jy.1 hq with rfl|hq
    ·exact⟨aN,hd,by simpa [r0] using Y,h2'⟩
    ·obtain⟨d',e1,e2,e3⟩:=ih1 q hq
     exact⟨d',e1,e2,fun hm=>e3 (o8 _ hm)⟩
   ·cases i with
    |zero=>
     cases j with
     |zero=>rfl
     |succ j=>
      simp at hi hj
      subst hi
      obtain⟨d',e1,_,e3⟩:=ih1 p (rm hj)
      rw [hd,e1]at hdp
      have e4:aN=d' :=by simpa using hdp
      exact absurd (by rw [e4];exact nV ..) e3
    |succ i=>
     cases j with
     |zero=>
      simp at hi hj
      subst hj
      obtain⟨d',e1,_,e3⟩:=ih1 q (rm hi)
      rw [hd,e1]at hdp
      have e4:d' =aN:=by simpa using hdp
      exact absurd (by rw [e4];exact nV ..) e3
     |succ j=>rw [ih2 i j q p (by simpa using hi) (by simpa using hj) hdp]

structure DJ(E:En)(O:List OE)(G:kN)(l:List Oper)(ts:List Ty)(done:Array Bool)(a:Act)(w:World)(S:SH):Prop where
 ext:jc E.B E.w0 E.S0 w S
 sat:kV w S
 own:dL E.base E.B w S O
 size:a.tmps.size=E.N.n
 defers:a.defers=E.N.ds
 dsz:done.size=l.length
 down: ∀j o,l[j]? =some o->done.getD j false=true-> ∀e∈o.after,Region.binds .any e=true->done.getD e.on false=true
 old: ∀k t,b8 G k=some t->(∀j o,l[j]? =some o->done.getD j false=true->o.dst≠some k)->t.p S (a.tmps.getD k undef)
 new: ∀j o aN t,l[j]? =some o->done.getD j false=true->o.dst=some aN->ts[j]? =some t->t.p S (a.tmps.getD aN undef)
variable{done:Array Bool}
def DJ.need{E:En}{l:List Oper}(h:DJ E O G l ts done a w S)(hi:l[i]? =some o)(hun:done.getD i true=false)(hwait: ∀e∈o.after,Region.binds .any e=true->done.getD e.on false=true){needs:List Nd}(Y:pW G ts needs)(H:(needs.all (nm l o i))=true):bR E.N S a (iD needs):=by
 have hlt:i<done.size:=by rw [h.dsz];exact(pZ.1 hi).1
 have hun' :done.getD i false=false:=by
  simp [hlt]at hun ⊢;exact hun
 refine⟨h.size,h.defers,?_⟩
 have key: ∀n∈needs,n.ty.p S (a.tmps.getD n.slot undef):=by
  intro n hn
  have hs:=me.1 H n hn
  have ho:=Y.mem n hn
  unfold nm at hs
  unfold we at ho
  cases hsrc:n.src with
  |some j=>
   rw [hsrc]at hs ho
   simp only [iO]at hs
   obtain⟨hs1,hs2⟩:=hs
   cases hj:l[j]? with
   |none=>rw [hj]at hs1;cases hs1
   |some p=>
    rw [hj]at hs1
    cases hd:p.dst with
    |none=>simp only [hd]at hs1;cases hs1
    |some aN=>
     simp only [hd]at hs1
     have hd' :=nk hs1
     subst hd'
     have hdone:done.getD j false=true:=by
      unfold zA at hs2
      obtain⟨e,he0,W⟩:=Aw.1 hs2
      have he:e∈o.after:=by simpa using he0
      simp only [iO]at W
      have:=hwait e he W.2
      rwa [nk W.1]at this
     exact h.new j p n.slot n.ty hj hdone hd ho
  |none=>
   rw [hsrc]at hs ho
   refine h.old _ _ ho fun j p hj hdone hd=>?_
   have:=me.1 hs p (rm hj)
   simp only [hd,Nat.beq_refl,qK,sy]at this
   unfold zA at this
   obtain⟨e,he0,W⟩:=Aw.1 this
   have he:e∈p.after:=by simpa using he0
   simp only [iO]at W
   have Q:=h.down j p hj hdone e he W.2
   rw [nk W.1]at Q
   rw [Q]at hun'
   cases hun'
 clear Y H
 intro k t hk
 induction needs with
 |nil=>simp [iD,b8]at hk
 |cons n needs ih=>
  unfold iD b8 at hk
  by_cases W:Nat.beq n.slot k=true
  ·rw [W]at hk
   have:=nk W
   subst this
   have e:n.ty=t:=by simpa using hk
   rw [<-e]
   exact key n (nV ..)
  ·rw [yH]at W
   rw [W]at hk
   exact ih (fun m hm=>key m (o8 _ hm)) hk
def Ia:List Oper->List Ty->kN->kN
 |o::l,t::ts,G=>(PL o,t)::Ia l ts G
 |_,_,G=>G
def Dy(l:List Oper): ∀(ts:List Ty) (k:Nat) (t:Ty),(∀o:Oper,o∈l->o.dst≠none)->ts.length=l.length->b8 (Ia l ts G) k=some t->
  (∃(j:Nat) (o:Oper),l[j]? =some o/\o.dst=some k/\ts[j]? =some t)\/(b8 G k=some t/\ ∀o:Oper,o∈l->o.dst≠some k):=by
 induction l with
 |nil=>
  intro ts k t _ hl h
  have:ts=[]:=sd (by simpa using hl)
  subst this
  exact .inr ⟨h,fun _ h=>(by cases h)⟩
 |cons o l ih=>
  intro ts k t hne hl h
  cases ts with
  |nil=>simp at hl
  |cons u ts=>
   unfold Ia b8 at h
   by_cases W:Nat.beq (PL o) k=true
   ·rw [W]at h
    have hk:=nk W
    refine .inl ⟨0,o,rfl,?_,by simpa using h⟩
    cases hd:o.dst with
    |none=>exact absurd hd (hne o (nV ..))
    |some aN=>simp only [PL,hd,Option.getD_some]at hk;rw [hk]
   ·rw [yH]at W
    rw [W]at h
    rcases ih ts k t (fun p hp=>hne p (o8 _ hp)) (by simpa using hl) h with⟨j,p,Y,H,Q⟩|⟨Y,H⟩
    ·exact .inl ⟨j+1,p,by simpa using Y,H,by simpa using Q⟩
    ·refine .inr ⟨Y,fun p hp hd=>?_⟩
     rcases jy.1 hp with rfl|hp
     ·simp [PL,hd]at W
     ·exact H p hp hd
def rA(hd:aN<a.tmps.size):(a.put (some aN) v).tmps.getD k undef=if aN=k then v else a.tmps.getD k undef:=by
 by_cases h:aN=k
 ·subst h;simp [Act.put,Ea,hd]
 ·simp [Act.put,Ea,h]
def DJ.step{E:En}{l:List Oper}(h:DJ E O G l ts done a w S)(hsl:tu E.N.n [] l=true)(hi:l[i]? =some o)(hwait: ∀e∈o.after,Region.binds .any e=true->done.getD e.on false=true)(D:ts[i]? =some t)(hun:done.getD i true=false)(hext:jc rn w S w' S')(hsat:kV w' S')(hv:t.p S' v):DJ E O G l ts (done.setIfInBounds i true) (a.put o.dst v) w' S' :=by
 obtain⟨hs1,hs2⟩:=uH l [] hsl
 obtain⟨aN,hd,hdN,_⟩:=hs1 o (rm hi)
 have hda:aN<a.tmps.size:=by rw [h.size];exact hdN
 have hlt:i<done.size:=by rw [h.dsz];exact(pZ.1 hi).1
 have hset: ∀j,(done.setIfInBounds i true).getD j false=true->j=i\/done.getD j false=true:=fun j hj=>by
  by_cases hij:i=j
  ·exact .inl hij.symm
  ·rw [ub false hij]at hj;exact .inr hj
 have hseti:(done.setIfInBounds i true).getD i false=true:=by simp [hlt]
 have hun' :done.getD i false=false:=by simp [hlt]at hun ⊢;exact hun
 refine⟨h.ext.step0 hext,hsat,h.own.ext0 hext,?_,?_,by simp [h.dsz],fun j p hj hdone e he W=>?_,fun k u hk hno=>?_,fun j p d' u hj hdone hd' hu=>?_⟩
 ·rw [hd];simp [Act.put,h.size]
 ·rw [hd];exact h.defers
 ·rcases hset j hdone with rfl|hj'
  ·rw [hi]at hj
   have:o=p:=by simpa using hj
   subst this
   exact vW (hwait e he W)
  ·exact vW (h.down j p hj hj' e he W)
 ·have hne:aN≠k:=fun e=>hno i o hi hseti (by rw [hd,e])
  rw [hd,rA hda,aZ hne]
  exact u.mono hext.keep (h.old k u hk fun j p hj hdone=>hno j p hj (vW hdone))
 ·rw [hd,rA hda]
  rcases hset j hdone with rfl|hj'
  ·rw [hi]at hj
   have:o=p:=by simpa using hj
   subst this
   rw [hd]at hd'
   have:aN=d' :=by simpa using hd'
   subst this
   rw [bu rfl]
   rw [D]at hu
   have:t=u:=by simpa using hu
   subst this
   exact hv
  ·have hne:aN≠d' :=fun e=>by
    subst e
    have:=hs2 i j o p hi hj (by rw [hd,hd'])
    subst this
    rw [hj']at hun';cases hun'
   rw [aZ hne]
   exact u.mono hext.keep (h.new j p d' u hj hj' hd' hu)
def GY{l:List Oper}{done:Array Bool}(hsz:done.size=l.length)(hedge: ∀i o,l[i]? =some o->dK i o=true)(hr:Region.ready .any l.toArray done=[]): ∀n i,i<n->i<l.length->done.getD i false=true
 |0,i,h,_=>by omega
 |n+1,i,h,hi=>by
  have ih:=GY hsz hedge hr n
  by_cases hd:done.getD i true=true
  ·have:i<done.size:=by omega
   simp [this]at hd ⊢;exact hd
  ·exfalso
   have hmem:i∈Region.ready .any l.toArray done:=by
    rw [qN]
    refine⟨by simpa using hd,l[i],by simp [hi],fun e he W=>?_⟩
    have:=hedge i l[i] (by simp [hi])
    unfold dK at this
    have:=me.1 this e (by simpa using he)
    simp only [W,qK,sy,r0]at this
    exact ih e.on (by omega) (by omega)
   rw [hr]at hmem
   cases hmem
def kC(done:Array Bool):Nat:=done.toList.countP (· ==false)
def pb(h:done.getD i true=false):kC (done.setIfInBounds i true)+1=kC done:=by
 have hlt:i<done.size:=by
  rcases m0 i done.size with h' |h'
  ·exact h'
  ·simp [Array.getElem?_eq_none h']at h
 have hv:done[i]=false:=by simpa [hlt] using h
 unfold kC
 rw [Array.toList_setIfInBounds,List.countP_set (by simpa using hlt)]
 have H:(done.toList[i]'(by simpa using hlt))=false:=by simpa using hv
 have hpos:0<done.toList.countP (· ==false):=List.countP_pos_iff.2 ⟨done.toList[i]'(by simpa using hlt),CR _,by rw [H];rfl⟩
 rw [H,bu (show(false==false)=true from rfl),aZ (show¬((true==false)=true) by decide)]
 omega
def Ht{E:En}{l:List Oper}(hsl:tu E.N.n [] l=true)(hd:DR E O G l ts 0 l)(hQ: ∀done a w S,DJ E O G l ts done a w S->(∀i,i<l.length->done.getD i false=true)->h3 .normal a w):
  ∀(fuel:Nat) (done:Array Bool) (a:Act) (w:World) (S:SH),kC done=fuel->DJ E O G l ts done a w S->wpAnyIn (fw E.r) 0 E.P .any l.toArray h3 fuel done a w:=by
 have hedge: ∀i o,l[i]? =some o->dK i o=true:=fun i o hi=>by
  obtain⟨_,_,_,_,_,h,_⟩:=DR.get l 0 hd i o hi
  simpa using h
 have fin: ∀done a w S,DJ E O G l ts done a w S->Region.ready .any l.toArray done=[]->h3 .normal a w:=fun done a w S h hr=>
  hQ done a w S h fun i hi=>GY h.dsz hedge hr (i+1) i (by omega) hi
 intro fuel
 induction fuel with
 |zero=>
  intro done a w S hu h
  have hr:Region.ready .any l.toArray done=[]:=by
   cases hr:Region.ready .any l.toArray done with
   |nil=>rfl
   |cons i r=>
    have hm:i∈Region.ready .any l.toArray done:=by rw [hr];exact nV ..
    have:=pb (qN.1 hm).1
    omega
  exact⟨hr,fin done a w S h hr⟩
 |succ fuel ih=>
  intro done a w S hu h
  refine⟨fin done a w S h,fun i hi=>?_⟩
  obtain⟨hun,o,ho,hwait⟩:=qN.1 hi
  have ho' :l[i]? =some o:=by simpa using ho
  obtain⟨needs,t,Y,H,Q,_,h5⟩:=DR.get l 0 hd i o ho'
  rw [uj]at Y Q
  have hF:=h.need ho' hun hwait H Q
  have h6:=h5 a w S h.sat h.own hF
  have hu' :kC (done.setIfInBounds i true)=fuel:=by have:=pb hun;omega
  unfold wpOpIn
  rw [ho]
  show if _ then _ else _
  by_cases hw:Region.wanted o (yielded l.toArray a.tmps)=true
  ·rw [bu hw]at h6 ⊢
   refine j9 (fun a' w' ⟨v,S',ha,he,hs,hv⟩=>?_) h6
   subst ha
   exact ih _ _ _ S' hu' (h.step hsl ho' hwait Y hun he hs hv)
  ·rw [aZ hw]at h6 ⊢
   exact⟨fun _ _=>trivial,ih _ _ _ S hu' (h.step hsl ho' hwait Y hun (ib _ _ _) h.sat h6)⟩
section
variable{E:En}
def jV{id:Nat}{l:List Oper}(hm:E.P.follows .mixedOrders=true)(hsl:tu E.N.n [] l=true)(hlen:ts.length=l.length)(hd:DR E O G l ts 0 l)(k:AT E h3 .normal O (Ia l ts G)):
  CG E h3 (.region id l.toArray true) O G:=fun a w S st=>by
 refine wpIn_region_any hm ?_
 obtain⟨he,hs⟩:=vw (w:=w) st.sat
 refine Ht hsl hd (fun done a w S h hall=>k a w S ⟨h.ext,h.sat,h.own,h.size,h.defers,fun j t hj=>?_⟩) _ _ _ _ S ?_
  ⟨st.ext.step0 he,hs,st.own.ext0 he,st.facts.size,st.facts.defers,by simp,fun j o hj hdone=>?_,fun k t hk _=>st.facts.at_ k t hk,fun j o aN t hj hdone=>?_⟩
 ·obtain⟨hs1,_⟩:=uH l [] hsl
  rcases Dy l ts j t (fun o ho e=>by obtain⟨aN,hd,_⟩:=hs1 o ho;rw [hd]at e;cases e) hlen hj with⟨i,o,Y,H,Q⟩|⟨Y,H⟩
  ·exact h.new i o j t Y (hall i (pZ.1 Y).1) H Q
  ·exact h.old j t Y fun i o ho _=>H o (rm ho)
 ·unfold kC;rw [Jb,I9];simp
 ·simp [wE]at hdone
  split at hdone<;>simp at hdone
 ·simp [wE]at hdone
  split at hdone<;>simp at hdone
def ac{need:kN}(X:o.guard=none)(h:b9 E O need o t):co E O ops need o t:=fun a w S hs ho hf=>by
 have:Region.wanted o (yielded ops a.tmps)=true:=by unfold Region.wanted;rw [X]
 rw [this,bu rfl]
 exact h a w S hs ho hf
def zU{l:List Oper}{need:kN}{c:Bool}(X:o.guard=some (j,pol))(hj:((l.toArray)[j]?).bind (·.dst)=some gs)(hgs:Nat.blt gs E.N.n=true)(W:aI E.N need (.tmp gs) (rG c b))(h:(c&&(b==pol))=true->b9 E O need o t):co E O l.toArray need o (m4 (c&&(b==pol)) t):=fun a w S hs ho hf=>by
 have hw:=qP (ops:=l.toArray) X hj (by rw [hf.size];simpa [r0] using hgs) (W S a hf)
 rw [hw]
 by_cases hc:(c&&(b==pol))=true
 ·rw [bu hc]
  refine m7 (fun a' w' ⟨v,S',ha,he,hs,hv⟩=>⟨v,S',ha,he,hs,?_⟩) (h hc a w S hs ho hf)
  show if _ then _ else _
  rw [bu hc];exact hv
 ·rw [aZ hc]
  show if _ then _ else _
  rw [aZ hc]
end
variable{α0 α1 α2 α3 α4:Type}{Gf:α0->α1->α2->α3->α4->kN}{Of:α0->α1->α2->α3->α4->List OE}{α5 α6 α7 α8:Type}
section
variable{E:En}
def LH{id:Nat}{bx:Prop}{Of:List OE}{Gf:kN}(hK:bx->AT E h3 .normal (Of) (Gf))(h:(bx->AT E h3 .normal (Of) (Gf))->CG E (Exit.inBlock id h3) c O G):CG E h3 (.block id c) O G:=aA (h hK)
def LB{x y:Code}{bx:Prop}{Of:List OE}{Gf:kN}(hK:bx->CG E h3 y (Of) (Gf))
  (h:(bx->AT E (Exit.then (y.wpIn (fw E.r) 0 E.P h3) h3) .normal (Of) (Gf))->CG E (Exit.then (y.wpIn (fw E.r) 0 E.P h3) h3) x O G):CG E h3 (.seq x y) O G:=aP (h (fun hz=>hK hz))
def gO{bx:List β->α0->Prop}{Of:List β->α0->List OE}{Gf:List β->α0->kN}(h0: ∀x0,bx [] x0->LG E h3 c (Of [] x0) (Gf [] x0))(h: ∀b l,(∀x0,bx l x0->LG E h3 c (Of l x0) (Gf l x0))-> ∀x0,bx (b::l) x0->LG E h3 c (Of (b::l) x0) (Gf (b::l) x0)): ∀l,∀x0,bx l x0->LG E h3 c (Of l x0) (Gf l x0)
 |[]=>h0
 |b::l=>h b l (gO h0 h l)
def D4{id:Nat}{bx:α0->Prop}{Of:α0->List OE}{Gf:α0->kN}(hK: ∀x0,bx x0->AT E h3 .normal (Of x0) (Gf x0))(h:(∀x0,bx x0->AT E h3 .normal (Of x0) (Gf x0))->CG E (Exit.inBlock id h3) c O G):CG E h3 (.block id c) O G:=aA (h hK)
def gR{x y:Code}{bx:α0->Prop}{Of:α0->List OE}{Gf:α0->kN}(hK: ∀x0,bx x0->CG E h3 y (Of x0) (Gf x0))(h:(∀x0,bx x0->AT E (Exit.then (y.wpIn (fw E.r) 0 E.P h3) h3) .normal (Of x0) (Gf x0))->CG E (Exit.then (y.wpIn (fw E.r) 0 E.P h3) h3) x O G):CG E h3 (.seq x y) O G:=aP (h (fun x0=>fun hz=>hK x0 hz))
def Ap{bx:Nat->α0->α1->Prop}{Of:α0->α1->List OE}{Gf:α0->α1->kN}(h0: ∀x0 x1,bx 0 x0 x1->False)(h: ∀n,(∀x0 x1,bx n x0 x1->LG E h3 c (Of x0 x1) (Gf x0 x1))-> ∀x0 x1,bx (n+1) x0 x1->LG E h3 c (Of x0 x1) (Gf x0 x1)): ∀n,∀x0 x1,bx n x0 x1->LG E h3 c (Of x0 x1) (Gf x0 x1)
 |0=>fun x0 x1 hz=>(h0 x0 x1 hz).elim
 |n+1=>h n (Ap h0 h n)
def vu{bx:List β->α0->α1->Prop}{Of:List β->α0->α1->List OE}{Gf:List β->α0->α1->kN}(h0: ∀x0 x1,bx [] x0 x1->LG E h3 c (Of [] x0 x1) (Gf [] x0 x1))(h: ∀b l,(∀x0 x1,bx l x0 x1->LG E h3 c (Of l x0 x1) (Gf l x0 x1))-> ∀x0 x1,bx (b::l) x0 x1->LG E h3 c (Of (b::l) x0 x1) (Gf (b::l) x0 x1)): ∀l,∀x0 x1,bx l x0 x1->LG E h3 c (Of l x0 x1) (Gf l x0 x1)
 |[]=>h0
 |b::l=>h b l (vu h0 h l)
def D1{x y:Code}{bx:α0->α1->Prop}{Of:α0->α1->List OE}{Gf:α0->α1->kN}(hK: ∀x0 x1,bx x0 x1->CG E h3 y (Of x0 x1) (Gf x0 x1))(h:(∀x0 x1,bx x0 x1->AT E (Exit.then (y.wpIn (fw E.r) 0 E.P h3) h3) .normal (Of x0 x1) (Gf x0 x1))->CG E (Exit.then (y.wpIn (fw E.r) 0 E.P h3) h3) x O G):CG E h3 (.seq x y) O G:=aP (h (fun x0 x1=>fun hz=>hK x0 x1 hz))
def Kf{bx:Nat->α0->α1->α2->Prop}{Of:α0->α1->α2->List OE}{Gf:α0->α1->α2->kN}(h0: ∀x0 x1 x2,bx 0 x0 x1 x2->False)(h: ∀n,(∀x0 x1 x2,bx n x0 x1 x2->LG E h3 c (Of x0 x1 x2) (Gf x0 x1 x2))-> ∀x0 x1 x2,bx (n+1) x0 x1 x2->LG E h3 c (Of x0 x1 x2) (Gf x0 x1 x2)): ∀n,∀x0 x1 x2,bx n x0 x1 x2->LG E h3 c (Of x0 x1 x2) (Gf x0 x1 x2)
 |0=>fun x0 x1 x2 hz=>(h0 x0 x1 x2 hz).elim
 |n+1=>h n (Kf h0 h n)
def Cd{bx:List β->α0->α1->α2->Prop}{Of:List β->α0->α1->α2->List OE}{Gf:List β->α0->α1->α2->kN}(h0: ∀x0 x1 x2,bx [] x0 x1 x2->LG E h3 c (Of [] x0 x1 x2) (Gf [] x0 x1 x2))(h: ∀b l,(∀x0 x1 x2,bx l x0 x1 x2->LG E h3 c (Of l x0 x1 x2) (Gf l x0 x1 x2))-> ∀x0 x1 x2,bx (b::l) x0 x1 x2->LG E h3 c (Of (b::l) x0 x1 x2) (Gf (b::l) x0 x1 x2)): ∀l,∀x0 x1 x2,bx l x0 x1 x2->LG E h3 c (Of l x0 x1 x2) (Gf l x0 x1 x2)
 |[]=>h0
 |b::l=>h b l (Cd h0 h l)
def Ke{bx:Nat->α0->α1->α2->Prop}{Of:Nat->α0->α1->α2->List OE}{Gf:Nat->α0->α1->α2->kN}(h0: ∀x0 x1 x2,bx 0 x0 x1 x2->LG E h3 c (Of 0 x0 x1 x2) (Gf 0 x0 x1 x2))(h: ∀n,(∀x0 x1 x2,bx n x0 x1 x2->LG E h3 c (Of n x0 x1 x2) (Gf n x0 x1 x2))-> ∀x0 x1 x2,bx (n+1) x0 x1 x2->LG E h3 c (Of (n+1) x0 x1 x2) (Gf (n+1) x0 x1 x2)): ∀n,∀x0 x1 x2,bx n x0 x1 x2->LG E h3 c (Of n x0 x1 x2) (Gf n x0 x1 x2)
 |0=>h0
 |n+1=>h n (Ke h0 h n)
def LA{x y:Code}{bx:α0->α1->α2->Prop}{Of:α0->α1->α2->List OE}{Gf:α0->α1->α2->kN}(hK: ∀x0 x1 x2,bx x0 x1 x2->CG E h3 y (Of x0 x1 x2) (Gf x0 x1 x2))(h:(∀x0 x1 x2,bx x0 x1 x2->AT E (Exit.then (y.wpIn (fw E.r) 0 E.P h3) h3) .normal (Of x0 x1 x2) (Gf x0 x1 x2))->CG E (Exit.then (y.wpIn (fw E.r) 0 E.P h3) h3) x O G):CG E h3 (.seq x y) O G:=aP (h (fun x0 x1 x2=>fun hz=>hK x0 x1 x2 hz))
def Ao{bx:Nat->α0->α1->α2->α3->Prop}{Of:α0->α1->α2->α3->List OE}{Gf:α0->α1->α2->α3->kN}(h0: ∀x0 x1 x2 x3,bx 0 x0 x1 x2 x3->False)(h: ∀n,(∀x0 x1 x2 x3,bx n x0 x1 x2 x3->LG E h3 c (Of x0 x1 x2 x3) (Gf x0 x1 x2 x3))-> ∀x0 x1 x2 x3,bx (n+1) x0 x1 x2 x3->LG E h3 c (Of x0 x1 x2 x3) (Gf x0 x1 x2 x3)): ∀n,∀x0 x1 x2 x3,bx n x0 x1 x2 x3->LG E h3 c (Of x0 x1 x2 x3) (Gf x0 x1 x2 x3)
 |0=>fun x0 x1 x2 x3 hz=>(h0 x0 x1 x2 x3 hz).elim
 |n+1=>h n (Ao h0 h n)
def lS{bx:List β->α0->α1->α2->α3->Prop}{Of:List β->α0->α1->α2->α3->List OE}{Gf:List β->α0->α1->α2->α3->kN}(h0: ∀x0 x1 x2 x3,bx [] x0 x1 x2 x3->LG E h3 c (Of [] x0 x1 x2 x3) (Gf [] x0 x1 x2 x3))(h: ∀b l,(∀x0 x1 x2 x3,bx l x0 x1 x2 x3->LG E h3 c (Of l x0 x1 x2 x3) (Gf l x0 x1 x2 x3))-> ∀x0 x1 x2 x3,bx (b::l) x0 x1 x2 x3->LG E h3 c (Of (b::l) x0 x1 x2 x3) (Gf (b::l) x0 x1 x2 x3)): ∀l,∀x0 x1 x2 x3,bx l x0 x1 x2 x3->LG E h3 c (Of l x0 x1 x2 x3) (Gf l x0 x1 x2 x3)
 |[]=>h0
 |b::l=>h b l (lS h0 h l)
def D3{id:Nat}{bx:α0->α1->α2->α3->Prop}{Of:α0->α1->α2->α3->List OE}{Gf:α0->α1->α2->α3->kN}(hK: ∀x0 x1 x2 x3,bx x0 x1 x2 x3->AT E h3 .normal (Of x0 x1 x2 x3) (Gf x0 x1 x2 x3))(h:(∀x0 x1 x2 x3,bx x0 x1 x2 x3->AT E h3 .normal (Of x0 x1 x2 x3) (Gf x0 x1 x2 x3))->CG E (Exit.inBlock id h3) c O G):CG E h3 (.block id c) O G:=aA (h hK)
def E5{bx:Nat->α0->α1->α2->α3->α4->Prop}(h0: ∀x0 x1 x2 x3 x4,bx 0 x0 x1 x2 x3 x4->False)(h: ∀n,(∀x0 x1 x2 x3 x4,bx n x0 x1 x2 x3 x4->LG E h3 c (Of x0 x1 x2 x3 x4) (Gf x0 x1 x2 x3 x4))-> ∀x0 x1 x2 x3 x4,bx (n+1) x0 x1 x2 x3 x4->LG E h3 c (Of x0 x1 x2 x3 x4) (Gf x0 x1 x2 x3 x4)): ∀n,∀x0 x1 x2 x3 x4,bx n x0 x1 x2 x3 x4->LG E h3 c (Of x0 x1 x2 x3 x4) (Gf x0 x1 x2 x3 x4)
 |0=>fun x0 x1 x2 x3 x4 hz=>(h0 x0 x1 x2 x3 x4 hz).elim
 |n+1=>h n (E5 h0 h n)
def Ha{bx:List β->α0->α1->α2->α3->α4->Prop}{Of:List β->α0->α1->α2->α3->α4->List OE}{Gf:List β->α0->α1->α2->α3->α4->kN}(h0: ∀x0 x1 x2 x3 x4,bx [] x0 x1 x2 x3 x4->LG E h3 c (Of [] x0 x1 x2 x3 x4) (Gf [] x0 x1 x2 x3 x4))(h: ∀b l,(∀x0 x1 x2 x3 x4,bx l x0 x1 x2 x3 x4->LG E h3 c (Of l x0 x1 x2 x3 x4) (Gf l x0 x1 x2 x3 x4))-> ∀x0 x1 x2 x3 x4,bx (b::l) x0 x1 x2 x3 x4->LG E h3 c (Of (b::l) x0 x1 x2 x3 x4) (Gf (b::l) x0 x1 x2 x3 x4)): ∀l,∀x0 x1 x2 x3 x4,bx l x0 x1 x2 x3 x4->LG E h3 c (Of l x0 x1 x2 x3 x4) (Gf l x0 x1 x2 x3 x4)
 |[]=>h0
 |b::l=>h b l (Ha h0 h l)
def Kc{bx:Nat->α0->α1->α2->α3->α4->Prop}{Of:Nat->α0->α1->α2->α3->α4->List OE}{Gf:Nat->α0->α1->α2->α3->α4->kN}(h0: ∀x0 x1 x2 x3 x4,bx 0 x0 x1 x2 x3 x4->LG E h3 c (Of 0 x0 x1 x2 x3 x4) (Gf 0 x0 x1 x2 x3 x4))(h: ∀n,(∀x0 x1 x2 x3 x4,bx n x0 x1 x2 x3 x4->LG E h3 c (Of n x0 x1 x2 x3 x4) (Gf n x0 x1 x2 x3 x4))-> ∀x0 x1 x2 x3 x4,bx (n+1) x0 x1 x2 x3 x4->LG E h3 c (Of (n+1) x0 x1 x2 x3 x4) (Gf (n+1) x0 x1 x2 x3 x4)): ∀n,∀x0 x1 x2 x3 x4,bx n x0 x1 x2 x3 x4->LG E h3 c (Of n x0 x1 x2 x3 x4) (Gf n x0 x1 x2 x3 x4)
 |0=>h0
 |n+1=>h n (Kc h0 h n)
def tf{id:Nat}{bx:α0->α1->α2->α3->α4->Prop}(hK: ∀x0 x1 x2 x3 x4,bx x0 x1 x2 x3 x4->AT E h3 .normal (Of x0 x1 x2 x3 x4) (Gf x0 x1 x2 x3 x4))(h:(∀x0 x1 x2 x3 x4,bx x0 x1 x2 x3 x4->AT E h3 .normal (Of x0 x1 x2 x3 x4) (Gf x0 x1 x2 x3 x4))->CG E (Exit.inBlock id h3) c O G):CG E h3 (.block id c) O G:=aA (h hK)
def D0{x y:Code}{bx:α0->α1->α2->α3->α4->Prop}(hK: ∀x0 x1 x2 x3 x4,bx x0 x1 x2 x3 x4->CG E h3 y (Of x0 x1 x2 x3 x4) (Gf x0 x1 x2 x3 x4))(h:(∀x0 x1 x2 x3 x4,bx x0 x1 x2 x3 x4->AT E (Exit.then (y.wpIn (fw E.r) 0 E.P h3) h3) .normal (Of x0 x1 x2 x3 x4) (Gf x0 x1 x2 x3 x4))->CG E (Exit.then (y.wpIn (fw E.r) 0 E.P h3) h3) x O G):CG E h3 (.seq x y) O G:=aP (h (fun x0 x1 x2 x3 x4=>fun hz=>hK x0 x1 x2 x3 x4 hz))
def yA{bx:Nat->α0->α1->α2->α3->α4->α5->Prop}{Of:α0->α1->α2->α3->α4->α5->List OE}{Gf:α0->α1->α2->α3->α4->α5->kN}(h0: ∀x0 x1 x2 x3 x4 x5,bx 0 x0 x1 x2 x3 x4 x5->False)(h: ∀n,(∀x0 x1 x2 x3 x4 x5,bx n x0 x1 x2 x3 x4 x5->LG E h3 c (Of x0 x1 x2 x3 x4 x5) (Gf x0 x1 x2 x3 x4 x5))-> ∀x0 x1 x2 x3 x4 x5,bx (n+1) x0 x1 x2 x3 x4 x5->LG E h3 c (Of x0 x1 x2 x3 x4 x5) (Gf x0 x1 x2 x3 x4 x5)): ∀n,∀x0 x1 x2 x3 x4 x5,bx n x0 x1 x2 x3 x4 x5->LG E h3 c (Of x0 x1 x2 x3 x4 x5) (Gf x0 x1 x2 x3 x4 x5)
 |0=>fun x0 x1 x2 x3 x4 x5 hz=>(h0 x0 x1 x2 x3 x4 x5 hz).elim
 |n+1=>h n (yA h0 h n)
def G9{bx:List β->α0->α1->α2->α3->α4->α5->Prop}{Of:List β->α0->α1->α2->α3->α4->α5->List OE}{Gf:List β->α0->α1->α2->α3->α4->α5->kN}(h0: ∀x0 x1 x2 x3 x4 x5,bx [] x0 x1 x2 x3 x4 x5->LG E h3 c (Of [] x0 x1 x2 x3 x4 x5) (Gf [] x0 x1 x2 x3 x4 x5))(h: ∀b l,(∀x0 x1 x2 x3 x4 x5,bx l x0 x1 x2 x3 x4 x5->LG E h3 c (Of l x0 x1 x2 x3 x4 x5) (Gf l x0 x1 x2 x3 x4 x5))-> ∀x0 x1 x2 x3 x4 x5,bx (b::l) x0 x1 x2 x3 x4 x5->LG E h3 c (Of (b::l) x0 x1 x2 x3 x4 x5) (Gf (b::l) x0 x1 x2 x3 x4 x5)): ∀l,∀x0 x1 x2 x3 x4 x5,bx l x0 x1 x2 x3 x4 x5->LG E h3 c (Of l x0 x1 x2 x3 x4 x5) (Gf l x0 x1 x2 x3 x4 x5)
 |[]=>h0
 |b::l=>h b l (G9 h0 h l)
def LF{id:Nat}{bx:α0->α1->α2->α3->α4->α5->Prop}{Of:α0->α1->α2->α3->α4->α5->List OE}{Gf:α0->α1->α2->α3->α4->α5->kN}(hK: ∀x0 x1 x2 x3 x4 x5,bx x0 x1 x2 x3 x4 x5->AT E h3 .normal (Of x0 x1 x2 x3 x4 x5) (Gf x0 x1 x2 x3 x4 x5))(h:(∀x0 x1 x2 x3 x4 x5,bx x0 x1 x2 x3 x4 x5->AT E h3 .normal (Of x0 x1 x2 x3 x4 x5) (Gf x0 x1 x2 x3 x4 x5))->CG E (Exit.inBlock id h3) c O G):CG E h3 (.block id c) O G:=aA (h hK)
def Cc{bx:List β->α0->α1->α2->α3->α4->α5->α6->Prop}{Of:List β->α0->α1->α2->α3->α4->α5->α6->List OE}{Gf:List β->α0->α1->α2->α3->α4->α5->α6->kN}(h0: ∀x0 x1 x2 x3 x4 x5 x6,bx [] x0 x1 x2 x3 x4 x5 x6->LG E h3 c (Of [] x0 x1 x2 x3 x4 x5 x6) (Gf [] x0 x1 x2 x3 x4 x5 x6))(h: ∀b l,(∀x0 x1 x2 x3 x4 x5 x6,bx l x0 x1 x2 x3 x4 x5 x6->LG E h3 c (Of l x0 x1 x2 x3 x4 x5 x6) (Gf l x0 x1 x2 x3 x4 x5 x6))-> ∀x0 x1 x2 x3 x4 x5 x6,bx (b::l) x0 x1 x2 x3 x4 x5 x6->LG E h3 c (Of (b::l) x0 x1 x2 x3 x4 x5 x6) (Gf (b::l) x0 x1 x2 x3 x4 x5 x6)): ∀l,∀x0 x1 x2 x3 x4 x5 x6,bx l x0 x1 x2 x3 x4 x5 x6->LG E h3 c (Of l x0 x1 x2 x3 x4 x5 x6) (Gf l x0 x1 x2 x3 x4 x5 x6)
 |[]=>h0
 |b::l=>h b l (Cc h0 h l)
def ta{bx:List β->α0->α1->α2->α3->α4->α5->α6->α7->Prop}{Of:List β->α0->α1->α2->α3->α4->α5->α6->α7->List OE}{Gf:List β->α0->α1->α2->α3->α4->α5->α6->α7->kN}(h0: ∀x0 x1 x2 x3 x4 x5 x6 x7,bx [] x0 x1 x2 x3 x4 x5 x6 x7->LG E h3 c (Of [] x0 x1 x2 x3 x4 x5 x6 x7) (Gf [] x0 x1 x2 x3 x4 x5 x6 x7))(h: ∀b l,(∀x0 x1 x2 x3 x4 x5 x6 x7,bx l x0 x1 x2 x3 x4 x5 x6 x7->LG E h3 c (Of l x0 x1 x2 x3 x4 x5 x6 x7) (Gf l x0 x1 x2 x3 x4 x5 x6 x7))-> ∀x0 x1 x2 x3 x4 x5 x6 x7,bx (b::l) x0 x1 x2 x3 x4 x5 x6 x7->LG E h3 c (Of (b::l) x0 x1 x2 x3 x4 x5 x6 x7) (Gf (b::l) x0 x1 x2 x3 x4 x5 x6 x7)): ∀l,∀x0 x1 x2 x3 x4 x5 x6 x7,bx l x0 x1 x2 x3 x4 x5 x6 x7->LG E h3 c (Of l x0 x1 x2 x3 x4 x5 x6 x7) (Gf l x0 x1 x2 x3 x4 x5 x6 x7)
 |[]=>h0
 |b::l=>h b l (ta h0 h l)
def yz{bx:List β->α0->α1->α2->α3->α4->α5->α6->α7->α8->Prop}{Of:List β->α0->α1->α2->α3->α4->α5->α6->α7->α8->List OE}{Gf:List β->α0->α1->α2->α3->α4->α5->α6->α7->α8->kN}(h0: ∀x0 x1 x2 x3 x4 x5 x6 x7 x8,bx [] x0 x1 x2 x3 x4 x5 x6 x7 x8->LG E h3 c (Of [] x0 x1 x2 x3 x4 x5 x6 x7 x8) (Gf [] x0 x1 x2 x3 x4 x5 x6 x7 x8))(h: ∀b l,(∀x0 x1 x2 x3 x4 x5 x6 x7 x8,bx l x0 x1 x2 x3 x4 x5 x6 x7 x8->LG E h3 c (Of l x0 x1 x2 x3 x4 x5 x6 x7 x8) (Gf l x0 x1 x2 x3 x4 x5 x6 x7 x8))-> ∀x0 x1 x2 x3 x4 x5 x6 x7 x8,bx (b::l) x0 x1 x2 x3 x4 x5 x6 x7 x8->LG E h3 c (Of (b::l) x0 x1 x2 x3 x4 x5 x6 x7 x8) (Gf (b::l) x0 x1 x2 x3 x4 x5 x6 x7 x8)): ∀l,∀x0 x1 x2 x3 x4 x5 x6 x7 x8,bx l x0 x1 x2 x3 x4 x5 x6 x7 x8->LG E h3 c (Of l x0 x1 x2 x3 x4 x5 x6 x7 x8) (Gf l x0 x1 x2 x3 x4 x5 x6 x7 x8)
 |[]=>h0
 |b::l=>h b l (yz h0 h l)
def D2{id:Nat}{bx:α0->α1->α2->α3->α4->α5->α6->α7->α8->Prop}{Of:α0->α1->α2->α3->α4->α5->α6->α7->α8->List OE}{Gf:α0->α1->α2->α3->α4->α5->α6->α7->α8->kN}(hK: ∀x0 x1 x2 x3 x4 x5 x6 x7 x8,bx x0 x1 x2 x3 x4 x5 x6 x7 x8->AT E h3 .normal (Of x0 x1 x2 x3 x4 x5 x6 x7 x8) (Gf x0 x1 x2 x3 x4 x5 x6 x7 x8))(h:(∀x0 x1 x2 x3 x4 x5 x6 x7 x8,bx x0 x1 x2 x3 x4 x5 x6 x7 x8->AT E h3 .normal (Of x0 x1 x2 x3 x4 x5 x6 x7 x8) (Gf x0 x1 x2 x3 x4 x5 x6 x7 x8))->CG E (Exit.inBlock id h3) c O G):CG E h3 (.block id c) O G:=aA (h hK)
def Ce{α9:Type}{bx:Nat->α0->α1->α2->α3->α4->α5->α6->α7->α8->α9->Prop}{Of:α0->α1->α2->α3->α4->α5->α6->α7->α8->α9->List OE}{Gf:α0->α1->α2->α3->α4->α5->α6->α7->α8->α9->kN}(h0: ∀x0 x1 x2 x3 x4 x5 x6 x7 x8 x9,bx 0 x0 x1 x2 x3 x4 x5 x6 x7 x8 x9->False)(h: ∀n,(∀x0 x1 x2 x3 x4 x5 x6 x7 x8 x9,bx n x0 x1 x2 x3 x4 x5 x6 x7 x8 x9->LG E h3 c (Of x0 x1 x2 x3 x4 x5 x6 x7 x8 x9) (Gf x0 x1 x2 x3 x4 x5 x6 x7 x8 x9))-> ∀x0 x1 x2 x3 x4 x5 x6 x7 x8 x9,bx (n+1) x0 x1 x2 x3 x4 x5 x6 x7 x8 x9->LG E h3 c (Of x0 x1 x2 x3 x4 x5 x6 x7 x8 x9) (Gf x0 x1 x2 x3 x4 x5 x6 x7 x8 x9)): ∀n,∀x0 x1 x2 x3 x4 x5 x6 x7 x8 x9,bx n x0 x1 x2 x3 x4 x5 x6 x7 x8 x9->LG E h3 c (Of x0 x1 x2 x3 x4 x5 x6 x7 x8 x9) (Gf x0 x1 x2 x3 x4 x5 x6 x7 x8 x9)
 |0=>fun x0 x1 x2 x3 x4 x5 x6 x7 x8 x9 hz=>(h0 x0 x1 x2 x3 x4 x5 x6 x7 x8 x9 hz).elim
 |n+1=>h n (Ce h0 h n)
end
def bs{α:Type _}{β:Type _}{x:Option α}{k:α->Option β}{r:β}(h:x.bind k=some r): ∃y,x=some y/\k y=some r:=by
 cases x with
 |none=>cases h
 |some y=>exact⟨y,rfl,h⟩
def ct{β:Type _}{x y:Option β}{r:β}(h:(if b=true then x else y)=some r)(W:b=true):x=some r:=by rwa [bu W]at h
def cf{β:Type _}{x y:Option β}{r:β}(h:(if b=true then x else y)=some r)(W:b=false):y=some r:=by rwa [aZ (by rw [W];decide)]at h
def so{β:Type _}{x r:β}(h:some x=some r):x=r:=by simpa using h
def og [Inhabited α]{x:Option α}{k:α->Option β}{aN:Option β}{r:β}(h:(if b=true then x.bind k else aN)=some r): ∃y,(b=true->x=some y/\k y=some r)/\(b=false->aN=some r):=by
 cases b with
 |true=>obtain⟨y,Y,H⟩:=bs (ct h rfl);exact⟨y,fun _=>⟨Y,H⟩,fun e=>(by cases e)⟩
 |false=>exact⟨default,fun e=>(by cases e),fun _=>cf h rfl⟩

def dg{α β:Type}(p:Rp α)(q:Rp β):Rp (α×β) where
 sz:=p.sz+q.sz
 agg:=true
 rc:=fun S cs x=> ∃a b,cs=a++b/\p.rc S a x.1/\q.rc S b x.2
 mono:=fun h ⟨a,b,e,Y,H⟩=>⟨a,b,e,p.mono h Y,q.mono h H⟩
 len:=fun⟨a,b,e,Y,H⟩=>by rw [e,kO,p.len Y,q.len H]
 one:=fun⟨a,b,e,Y,H⟩ c hc=>by
  rw [e]at hc
  rcases xo.1 hc with h|h
  ·exact p.one Y c h
  ·exact q.one H c h
 sc:=fun h=>by cases h
def qc{α β:Type}(p:Rp α)(f:β->α):Rp β where
 sz:=p.sz
 agg:=true
 rc:=fun S cs x=>p.rc S cs (f x)
 mono:=fun h k=>p.mono h k
 len:=fun h=>p.len h
 one:=fun h=>p.one h
 sc:=fun h=>by cases h
def bQ{p:Rp α}{f:β->α}:j6 (qc p f) 0 p f:=fun S cs x h=>by
 have h' :p.rc S cs (f x):=h
 have hl:=p.len h'
 rw [Ar,<-hl,Au];exact h'
def cE{γ:Type}{p:Rp α}{r:Rp γ}{get:γ->α×β}(h:j6 r off (dg p q) get):j6 r off p (fun x=>(get x).1):=fun S cs x k=>by
 obtain⟨a,b,e,Y,H⟩:=h S cs x k
 have hl:=p.len Y
 have hl2:=q.len H
 have:(cs.drop off).take p.sz=a:=by
  have e2:=congrArg (List.take p.sz) e
  rw [xm,uz (by show p.sz<=p.sz+q.sz;omega),<-hl,List.take_left]at e2
  rw [<-hl];exact e2
 rw [this];exact Y
def ax{γ:Type}{p:Rp α}{r:Rp γ}{off' :Nat}{get:γ->α×β}(h:j6 r off (dg p q) get)(ho:off' =off+p.sz):j6 r off' q (fun x=>(get x).2):=fun S cs x k=>by
 obtain⟨a,b,e,Y,H⟩:=h S cs x k
 have hl:=p.len Y
 have hl2:=q.len H
 have:(cs.drop off').take q.sz=b:=by
  have e2:=congrArg (List.drop p.sz) e
  rw [wi,sa,<-hl,List.drop_left]at e2
  rw [ho,<-hl,<-e2]
  congr 1
  show q.sz=p.sz+q.sz-a.length
  omega
 rw [this];exact H

section
variable{E:En}
def PU{op:Op}{ty:TypeId}(hj:(ops[j]?).bind (·.dst)=some gs)(hgs:Nat.blt gs E.N.n=true)(X:b8 G gs=some (tD rB b))(hd:Nat.blt aN E.N.n=true)(h:b=true->b9 E O G ⟨some aN,op,ty,pos,after,some (j,true)⟩ t)(k:RG E ops h3 rest O ((aN,m4 b t)::G)):RG E ops h3 (⟨some aN,op,ty,pos,after,some (j,true)⟩::rest) O G:=by
 have e:(true&&(b==true))=b:=by cases b<;>rfl
 exact E3 hj hgs (oj X) hd (by rw [e];exact h) (by rw [e];exact k)
def PV{op:Op}{ty:TypeId}(hj:(ops[j]?).bind (·.dst)=some gs)(hgs:Nat.blt gs E.N.n=true)(X:b8 G gs=some (tD rB b))(hd:Nat.blt aN E.N.n=true)(h:(!b)=true->b9 E O G ⟨some aN,op,ty,pos,after,some (j,false)⟩ t)(k:RG E ops h3 rest O ((aN,m4 (!b) t)::G)):RG E ops h3 (⟨some aN,op,ty,pos,after,some (j,false)⟩::rest) O G:=by
 have e:(true&&(b==false))= !b:=by cases b<;>rfl
 exact E3 hj hgs (oj X) hd (by rw [e];exact h) (by rw [e];exact k)
def ia{c:Bool}{op:Op}{ty:TypeId}(hj:(ops[j]?).bind (·.dst)=some gs)(hgs:Nat.blt gs E.N.n=true)(X:b8 G gs=some (m4 c (tD rB b)))(hd:Nat.blt aN E.N.n=true)(h:(c&&b)=true->b9 E O G ⟨some aN,op,ty,pos,after,some (j,true)⟩ t)(k:RG E ops h3 rest O ((aN,m4 (c&&b) t)::G)):RG E ops h3 (⟨some aN,op,ty,pos,after,some (j,true)⟩::rest) O G:=by
 have e:(c&&(b==true))=(c&&b):=by cases b<;>rfl
 exact E3 hj hgs (y6 X) hd (by rw [e];exact h) (by rw [e];exact k)
def c0{c:Bool}{op:Op}{ty:TypeId}(hj:(ops[j]?).bind (·.dst)=some gs)(hgs:Nat.blt gs E.N.n=true)(X:b8 G gs=some (m4 c (tD rB b)))(hd:Nat.blt aN E.N.n=true)(h:(c&& !b)=true->b9 E O G ⟨some aN,op,ty,pos,after,some (j,false)⟩ t)(k:RG E ops h3 rest O ((aN,m4 (c&& !b) t)::G)):RG E ops h3 (⟨some aN,op,ty,pos,after,some (j,false)⟩::rest) O G:=by
 have e:(c&&(b==false))=(c&& !b):=by cases b<;>rfl
 exact E3 hj hgs (y6 X) hd (by rw [e];exact h) (by rw [e];exact k)
def mX{l:List Oper}{need:kN}(X:o.guard=some (j,true))(hj:((l.toArray)[j]?).bind (·.dst)=some gs)(hgs:Nat.blt gs E.N.n=true)(W:b8 need gs=some (tD rB b))(h:b=true->b9 E O need o t):co E O l.toArray need o (m4 b t):=by
 have e:(true&&(b==true))=b:=by cases b<;>rfl
 have:=zU (t:=t) X hj hgs (oj (E:=E) W) (by rw [e];exact h)
 rwa [e]at this
def mY{l:List Oper}{need:kN}(X:o.guard=some (j,false))(hj:((l.toArray)[j]?).bind (·.dst)=some gs)(hgs:Nat.blt gs E.N.n=true)(W:b8 need gs=some (tD rB b))(h:(!b)=true->b9 E O need o t):co E O l.toArray need o (m4 (!b) t):=by
 have e:(true&&(b==false))= !b:=by cases b<;>rfl
 have:=zU (t:=t) X hj hgs (oj (E:=E) W) (by rw [e];exact h)
 rwa [e]at this
def xk{a:Bool}(h:a=true)(k:b=true):(a&&b)=true:=by rw [h,k];rfl
def y3{a:Bool}(h:a=false):(!a)=true:=by rw [h];rfl
def yD{c:Operand}{x y:Code}(W:aI E.N G c (tD rB b))(h:b=true)(V:CG E h3 x O G):CG E h3 (.cond c x y) O G:=qz W (fun _=>V) (fun e=>by rw [h]at e;cases e)
def yE{c:Operand}{x y:Code}(W:aI E.N G c (tD rB b))(h:b=false)(hy:CG E h3 y O G):CG E h3 (.cond c x y) O G:=qz W (fun e=>by rw [h]at e;cases e) (fun _=>hy)
end
def og2 [Inhabited α]{x:Option α}{k:α->Option β}{r:β}(h:b=true->x.bind k=some r): ∃y,b=true->x=some y/\k y=some r:=by
 cases b with
 |true=>obtain⟨y,Y,H⟩:=bs (h rfl);exact⟨y,fun _=>⟨Y,H⟩⟩
 |false=>exact⟨default,fun e=>(by cases e)⟩
section
variable{E:En}{ty:TypeId}
def nP{c:Operand}{q:Bool}(hc:aI E.N G c (tD rB b))(V:b=true->aI E.N G x (tD rB q)):b9 E O G ⟨dst,.pick c x (.const (.bool false)),ty,pos,after,g⟩ (tD rB (b&&q)):=by
 refine vG hc (fun h=>?_) (fun h=>?_)
 ·subst h;exact V rfl
 ·subst h;exact hB
def lW{c:Operand}{q:Bool}(hc:aI E.N G c (tD rB b))(V:b=false->aI E.N G x (tD rB q)):b9 E O G ⟨dst,.pick c (.const (.bool true)) x,ty,pos,after,g⟩ (tD rB (b||q)):=by
 refine vG hc (fun h=>?_) (fun h=>?_)
 ·subst h;exact hB
 ·subst h;exact V rfl
def cA{c:Operand}{q t:Bool}(hc:aI E.N G c (tD rB b))(V:b=true->aI E.N G x (tD rB q))(e1:b=true->some q=some t)(e0:b=false->some false=some t):b9 E O G ⟨dst,.pick c x (.const (.bool false)),ty,pos,after,g⟩ (tD rB t):=by
 refine vG hc (fun h=>?_) (fun h=>?_)
 ·rw [<-so (e1 h)];exact V h
 ·rw [<-so (e0 h)];exact hB
def wW{c:Operand}{q t:Bool}(hc:aI E.N G c (tD rB b))(V:b=false->aI E.N G x (tD rB q))(e1:(!b)=true->some q=some t)(e0:(!b)=false->some true=some t):b9 E O G ⟨dst,.pick c (.const (.bool true)) x,ty,pos,after,g⟩ (tD rB t):=by
 refine vG hc (fun h=>?_) (fun h=>?_)
 ·rw [<-so (e0 (by rw [h];rfl))];exact hB
 ·rw [<-so (e1 (by rw [h];rfl))];exact V h
def Ie(hi:ts[i]? =some t)(V:aI E.N G x (tT ts)):b9 E O G ⟨dst,.extract x i,ty,pos,after,g⟩ t:=
 .of_pure fun a w S _ _ hf=>by
  obtain⟨vs,Y,H⟩:=V S a hf
  obtain⟨v,Q,h4⟩:=H.at_ i t hi
  exact⟨v,by simp [execOp,Y,Instr.extract,Q],h4⟩
def OH{k:IntKind}{m n:Int}(V:aI E.N G x (tD (rI k) m))(hy:aI E.N G y (tD (rI k) n)):b9 E O G ⟨dst,.call ⟨.builtin .min,#[x,y],ats⟩,ty,pos,after,g⟩ (tD (rI k) (min m n)):=
 .of_pure fun a w S _ _ hf=>by
  have Y:a.eval x= .int k m:=dq.1 (V S a hf)
  have H:a.eval y= .int k n:=dq.1 (hy S a hf)
  refine⟨.int k (if n<m then n else m),by simp [execOp,resolve,invoke,builtin,Builtin.min_,Builtin.min2,Y,H],dq.2 ?_⟩
  congr 1
  rw [Int.min_def]
  split<;>split<;>omega

def ke(P:Program){α β:Type}(args:α->List Ty)(res:β->Ty)(f:α->Option β):Ty where
 p:=fun S v=> ∃fid cap,v= .func (.func fid) #[] cap/\ak P fid=true/\ ∀x y,f x=some y-> ∀w S' vs,SH.le S S' ->kV w S' ->uw S' (args x) vs->
  Calls P fid (vs.toArray++cap) w fun e w' => ∃v S'',e= .returned v/\jc rn w S' w' S'' /\kV w' S'' /\(res y).p S'' v
 mono:=fun h ⟨f,cap,e,hc,k⟩=>⟨f,cap,e,hc,fun x y hxy w S' vs hle=>k x y hxy w S' vs (SH.le_trans h hle)⟩
def MU{N:Fr}{P:Program}{f:α->Option β}{fid:FuncId}(hc:ak P fid=true)(hs: ∀x y,f x=some y->dy P fid (args x) (res y)):aI N G (.func fid) (ke P args res f):=fun S a _=>
 ⟨fid,#[],rfl,hc,fun x y h w S' vs _ hsat hv=>by simpa using hs x y h w S' vs hsat hv⟩
def uw.append: ∀{ts us:List Ty} {vs ws:List Value},uw S ts vs->uw S us ws->uw S (ts++us) (vs++ws)
 |[],_,[],_,_,h=>h
 |_::_,_,_::_,_,⟨Y,H⟩,h=>⟨Y,uw.append H h⟩
def uY{f:α->Option β}{fid:FuncId}{caps:List Operand}{cts:List Ty}(hc:ak E.P fid=true)(hcap:js E.N G caps cts)(hs: ∀x y,f x=some y->dy E.P fid (args x++cts) (res y)):b9 E O G ⟨dst,.makeFunc (.func fid) #[] caps.toArray,ty,pos,after,g⟩ (ke E.P args res f):=
 .of_pure fun a w S _ _ hf=>by
  refine⟨.func (.func fid) #[] (caps.map a.eval).toArray,by simp [execOp,Instr.makeFunc],fid,_,rfl,hc,fun x y h w' S' vs hle hsat hv=>?_⟩
  have hcv:=(hcap.tys hf).mono hle
  simpa using hs x y h w' S' _ hsat (hv.append hcv)
def ko{f:α->Option β}{fo:Operand}{x:α}{y:β}{xs:List Operand}(hfo:aI E.N G fo (ke E.P args res f))(h:f x=some y)(V:js E.N G xs (args x)):
  b9 E O G ⟨dst,.call ⟨.value fo,xs.toArray,ats⟩,ty,pos,after,g⟩ (res y):=fun a w S hS _ hF=>by
 obtain⟨fid,cap,e,hc,hs⟩:=hfo S a hF
 have hr:(execOp a.eval ⟨dst,.call ⟨.value fo,xs.toArray,ats⟩,ty,pos,after,g⟩).run E.P w= .ok (.enter fid ((xs.map a.eval).toArray++cap)) w:=by
  simp [execOp,resolve,e,Deferred.ofValue,invoke,gA hc]
 refine⟨fun c h=>(by cases h),?_⟩
 rw [hr]
 exact(hs x y h w S _ (SH.le_refl _) hS (V.tys hF)).mono fun e w' ⟨v,S',he,Y,H,Q⟩=>⟨v,he,v,S',rfl,Y,H,Q⟩
end
def dy.of{P:Program}{N:Nat}(hf:P.funcs[f]? =some fn)(W:fn.body=some c)(hN:fn.ntmps=N)(hn:Nat.ble ts.length N=true)(h: ∀w0 S0,CG ⟨P,⟨N,[]⟩,rn,w0,S0,none⟩ (bodyPost P fn (GM ⟨P,⟨N,[]⟩,rn,w0,S0,none⟩ t)) c [] (wv 0 ts)):dy P f ts t:=by
 subst hN
 exact E1 hf W (pN hn) h
def nn{α:Type _}{r:α}(h:(none:Option α)=some r):False:=by cases h
def u5{N:Fr}:aI N G (.const (.slice none 0 0)) (K (an none 0 0)):=fun _ _ _=>rfl
def eI:Nat:=2^64
section
variable{E:En}{ty:TypeId}
def Ib(l:Option Nat)(cap n:Nat)(h:l=none->n=0): ∃a c,an l cap n= .slice a n c:=by
 cases l with
 |none=>rw [h rfl];exact⟨none,0,rfl⟩
 |some b=>exact⟨_,cap,rfl⟩
def hD{r:Rp α}{n:Nat}{t:TypeId}(D:E.P.underlying t=some (.slice e))(hm:kP mm r T l cap xs∈O)(V:aI E.N G x (K (an l cap n)))(hn:n=xs.length:=by rfl):
  b9 E O G ⟨dst,.call ⟨.builtin .len,#[x],#[t]⟩,ty,pos,after,g⟩ (tD (rI .i64) (n:Int)):=
 .of_pure fun a w S _ ho hf=>by
  have Y:a.eval x=an l cap n:=V S a hf
  have H:=(ho.mem _ hm).1
  obtain⟨ad,c,Q⟩:=Ib l cap n (fun e=>by subst e;obtain⟨_,h4,_⟩:=H;rw [hn];exact h4.1)
  refine⟨.int .i64 n,?_,dq.2 rfl⟩
  simp [execOp,resolve,invoke,builtin,Builtin.len_,iv D,Y,Q,goInt]
end

structure Hj(P:Program){α:Type} [DecidableEq α](t:TypeId)(r:Rp α):Prop where
 guard:P.eqGuardType P.depth t=false
 run: ∀(S:SH) (cs ds:List Value) (x y:α) (aN:Nat) (w:World),r.rc S cs x->r.rc S ds y->(Op.equalIn (aN+20) t (r.val cs) (r.val ds)).run P w= .ok (decide (x=y)) w
section
variable{E:En}{ty:TypeId}
def zN{P:Program}{t:TypeId}(h:P.eqGuardType P.depth t=false){op:BinOp}{x y:Operand}{u v:Array Value}{w:World}:(eqGuard op t x y (.agg u) (.agg v)).run P w= .ok () w:=by
 unfold eqGuard
 cases op<;>first|rfl|simp [h]
def qk{r:Rp α}(h:r.agg=true)(cs:List Value):r.val cs= .agg cs.toArray:=by unfold Rp.val;rw [bu h]
def EB [DecidableEq α]{r:Rp α}{m n:α}(he:Hj E.P xt r)(V:aI E.N G x (tD r m))(hy:aI E.N G y (tD r n))(ha:r.agg=true:=by rfl):b9 E O G ⟨dst,.binOp .eql xt x y yt,ty,pos,after,g⟩ (tD rB (decide (m=n))):=
 .of_pure fun a w S _ _ hf=>by
  obtain⟨cs,Y,H⟩:=V S a hf
  obtain⟨ds,Q,h4⟩:=hy S a hf
  refine⟨.bool (decide (m=n)),?_,ie.2 rfl⟩
  have hr:=he.run S cs ds m n 9980 w H h4
  have X:= @zN E.P xt he.guard .eql x y cs.toArray ds.toArray w
  rw [qk ha,qk ha]at hr
  simp only [execOp,Y,Q,qk ha,rl,X,sF,binOp,Op.equal,Op.maxDepth]
  rw [show(10000:Nat)=9980+20 from rfl,hr]
  simp
def vH [DecidableEq α]{r:Rp α}{m n:α}(he:Hj E.P xt r)(V:aI E.N G x (tD r m))(hy:aI E.N G y (tD r n))(ha:r.agg=true:=by rfl):b9 E O G ⟨dst,.binOp .neq xt x y yt,ty,pos,after,g⟩ (tD rB (!decide (m=n))):=
 .of_pure fun a w S _ _ hf=>by
  obtain⟨cs,Y,H⟩:=V S a hf
  obtain⟨ds,Q,h4⟩:=hy S a hf
  refine⟨.bool (!decide (m=n)),?_,ie.2 rfl⟩
  have hr:=he.run S cs ds m n 9980 w H h4
  have X:= @zN E.P xt he.guard .neq x y cs.toArray ds.toArray w
  rw [qk ha,qk ha]at hr
  simp only [execOp,Y,Q,qk ha,rl,X,sF,binOp,Op.equal,Op.maxDepth]
  rw [show(10000:Nat)=9980+20 from rfl,hr]
  simp
end

def pJ{base:Nat}{B:Nat->Prop}(h:dL base B w S O)(k:jc rn w S w' S'){e:OE}(he:e.p w' S')(hn: ∀b,e.fp b->w.heap.size<=b)(W:base<=w.heap.size:=by first|assumption|exact St.base_le (by assumption)):dL base B w' S' (e::O):=
 ⟨⟨he,fun b hb' => .inl (wh W (hn b hb'))⟩,fun f hf b hb' hfb=>by
  have:=f.here (dL.mem h f hf).1 b hfb
  have:=hn b hb'
  omega,h.ext0 k⟩
def ir(P:Program)(f:FuncId)(ts:List Ty)(mm:Bool){α:Type}(r:Rp α)(T:TypeId)(xs:List α):Prop:=
 ∀w S vs,kV w S->uw S ts vs->Calls P f vs.toArray w fun e w' => ∃l cap S',e= .returned (an l cap xs.length)/\jc rn w S w' S' /\kV w' S' /\(kP mm r T l cap xs).holds w.heap.size rn w' S'
def HP{r:Rp α}(h:(kP mm r T l cap xs).holds w.heap.size rn w' S')(he:jc rn w S w' S')(hs:kV w' S'):
  ∃S'',jc rn w S w' S'' /\kV w' S'' /\(tD (gr r) xs).p S'' (an l cap xs.length):=by
 have st:St ⟨default,⟨0,[]⟩,rn,w,S,none⟩ [kP mm r T l cap xs] [] ⟨#[],[]⟩ w' S' :=⟨he,hs,⟨h,fun _ hf=>(by cases hf),trivial⟩,⟨rfl,rfl,fun _ _ h=>(by simp [b8]at h)⟩⟩
 obtain⟨S'',Y,H⟩:=st.settle
 exact⟨S'',Y.ext,Y.sat,H⟩
def ir.spec{P:Program}{r:Rp α}(h:ir P f ts mm r T xs):dy P f ts (tD (gr r) xs):=fun w S vs hs hv=>
 (h w S vs hs hv).mono fun e w' ⟨l,cap,S',he,Y,H,Q⟩=>by
  obtain⟨S'',h4,h5,h6⟩:=HP Q Y H
  exact⟨_,S'',he,h4,h5,h6⟩
def Ud(E:En)(mm:Bool){α:Type}(r:Rp α)(T:TypeId)(xs:List α):Ending->World->Prop:=fun e w' => ∃l cap S',e= .returned (an l cap xs.length)/\jc E.B E.w0 E.S0 w' S' /\kV w' S' /\(kP mm r T l cap xs).holds E.w0.heap.size E.B w' S'
def ir.of{P:Program}{N:Nat}{r:Rp α}(hf:P.funcs[f]? =some fn)(W:fn.body=some c)(hN:fn.ntmps=N)(hn:Nat.ble ts.length N=true)(h: ∀w0 S0,CG ⟨P,⟨N,[]⟩,rn,w0,S0,none⟩ (bodyPost P fn (Ud ⟨P,⟨N,[]⟩,rn,w0,S0,none⟩ mm r T xs)) c [] (wv 0 ts)):ir P f ts mm r T xs:=by
 subst hN
 intro w S vs hs hv
 exact tY.1 (callsIn_of_wp (F:=fw none) (n:=0) hf W trivial (h w S _ w S ⟨ib _ _ _,hs,trivial,xe hv _ (pN hn)⟩))
section
variable{E:En}
def lJ{P:Program}{N:Nat}{B:Nat->Prop}{w0:World}{S0:SH}{r:Rp α}{n:Nat}(hr:fn.results= #[.tmp k])(hk:b8 G k=some (K (an l cap n)))(hn:n=xs.length:=by rfl):
  AT ⟨P,⟨N,[]⟩,B,w0,S0,none⟩ (bodyPost P fn (Ud ⟨P,⟨N,[]⟩,B,w0,S0,none⟩ mm r T xs)) .ret (kP mm r T l cap xs::O) G:=fun a w S st=>by
 subst hn
 have hv:a.tmps.getD k undef=an l cap xs.length:=st.facts.at_ k _ hk
 exact⟨st.facts.defers,_,qb P fn k hr _ _,l,cap,S,by rw [hv],st.ext,st.sat,st.own.1⟩
section
variable{ty:TypeId}
def Lx{xs:List Operand}{r:Rp α}{u:Nat->Option Nat->Ty}(hc:ak E.P f=true)(hs:ir E.P f ts mm r T ys)(V:js E.N G xs ts)(hd:Nat.blt aN E.N.n=true)(hu: ∀l cap w0 S,(kP mm r T l cap ys).p w0 S->(u cap l).p S (an l cap ys.length))(k: ∀l cap,RG E ops h3 rest (kP mm r T l cap ys::O) ((aN,u cap l)::G)):
  RG E ops h3 (⟨some aN,.call ⟨.value (.func f),xs.toArray,ats⟩,ty,pos,after,none⟩::rest) O G:= .of rfl fun a w S st=>by
 have hr:(execOp a.eval ⟨some aN,.call ⟨.value (.func f),xs.toArray,ats⟩,ty,pos,after,none⟩).run E.P w= .ok (.enter f (xs.map a.eval).toArray) w:=by
  simp [execOp,resolve,Act.eval,Deferred.ofValue,invoke,gA hc]
 refine⟨fun c h=>(by cases h),?_⟩
 rw [hr]
 refine(hs w S _ st.sat (V.tys st.facts)).mono fun e w' ⟨l,cap,S',he,Y,H,Q⟩=>⟨_,he,?_⟩;refine k l cap _ _ S' ⟨st.ext.step0 Y,H,pJ st.own Y Q.1 (fun b W=>(Q.2 b W).resolve_right id) st.base_le,(st.facts.mono Y.keep).put hd (hu l cap w' S' Q.1)⟩
def NQ{xs:List Operand}{r:Rp α}(hc:ak E.P f=true)(hs:ir E.P f ts false r T ys)(V:js E.N G xs ts)(hd:Nat.blt aN E.N.n=true)(k: ∀l cap,RG E ops h3 rest (cM r T l cap ys::O) ((aN,K (an l cap ys.length))::G)):
  RG E ops h3 (⟨some aN,.call ⟨.value (.func f),xs.toArray,ats⟩,ty,pos,after,none⟩::rest) O G:=Lx (u:=fun cap l=>K (an l cap ys.length)) hc hs V hd (fun _ _ _ _ _=>rfl) k
def ov{r:Rp α}{xs:List Operand}{parts:List (Nat×Operand)}{t:TypeId}{n sz:Nat}{agg:Bool}(D:E.P.underlying t=some (.slice T))(ti:TI E.P T sz bytes agg z)(hsz:r.sz=sz)(h0:Nat.blt 0 sz=true)(hp:parts=wy 0 xs)(hn:n=ys.length)(W:Nat.ble (n*sz) 16777216=true)(V:js E.N G xs (ys.map (tD r)))(hd:Nat.blt aN E.N.n=true)(k: ∀l cap,RG E ops h3 rest (cM r T l cap ys::O) ((aN,K (an l cap ys.length))::G)):
  RG E ops h3 (⟨some aN,.buildSlice t n parts.toArray,ty,pos,after,none⟩::rest) O G:= .of rfl fun a w S st=>by
 obtain⟨cs,hc,hr⟩:=uJ D ti hsz hn W (V.tys st.facts) w
 subst hsz
 subst hp
 have hb' :=pN W
 have h0' :0<r.sz:=by simpa [r0] using h0
 have hnle:n<=n*r.sz:=Nat.le_mul_of_pos_right n h0'
 have hcl:=jl hc
 obtain⟨he,hs',hno⟩:=iG (w:=w) (.cells cs.toArray T (0,0)) st.sat
 have hrun:(execOp a.eval ⟨some aN,.buildSlice t n (wy 0 xs).toArray,ty,pos,after,none⟩).run E.P w= .ok (.value (.slice (some ⟨w.heap.size,0,none⟩) n n)) (w.alloc (.cells cs.toArray T (0,0))):=by
  simp only [execOp,rl,hr,sF,Sem.run_pure]
 refine⟨fun c h=>(by cases h),?_⟩
 rw [hrun]
 refine k (some w.heap.size) n _ _ S ⟨st.ext.step0 he,hs',pJ st.own he ⟨cs,⟨cs.toArray,Aq w _,by omega,by simp only [maxLen];omega,by simp [hcl,hn],by simp [<-hcl]⟩,hc,fun b W=>by rw [<-oy W];exact hno⟩ (fun b W=>xx (oy W)) st.base_le,st.facts.put hd ?_⟩
 ·show _=an _ _ _
  rw [<-hn];rfl
def G7{r:Rp α}{t:TypeId}(D:E.P.underlying t=some (.slice e))(V:aI E.N G x (tD (gr r) xs))(hd:Nat.blt aN E.N.n=true)(k: ∀b,(b=true->xs=[])->RG E ops h3 rest O ((aN,tD rB b)::G)):RG E ops h3 (⟨some aN,.binOp .eql t x (.const (.slice none 0 0)) yt,ty,pos,after,none⟩::rest) O G:= .of rfl fun a w S st=>by
 obtain⟨ad,cap,Y,_,_,H⟩:=jR.1 (V S a st.facts)
 have hrun:(execOp a.eval ⟨some aN,.binOp .eql t x (.const (.slice none 0 0)) yt,ty,pos,after,none⟩).run E.P w= .ok (.value (.bool ad.isNone)) w:=by
  have Q:(Op.equal t (.slice ad xs.length cap) (.slice none 0 0)).run E.P w= .ok ad.isNone w:=xF fun aN=>by
   cases ad<;>simp [Op.equalIn,iv D]
  have hcn:a.eval (.const (.slice none 0 0))= .slice none 0 0:=rfl
  simp [execOp,Y,hcn,eqGuard,binOp,Q]
 refine⟨fun c h=>(by cases h),?_⟩
 rw [hrun]
 refine k ad.isNone (fun e=>?_) _ _ S (st.step (ib _ _ _) st.sat hd (ie.2 rfl))
 rcases H with H|⟨b,off,c,T,fr,e1,_⟩
 ·exact H
 ·subst e1;cases e
end
end

def M(b off:Nat):Value:= .pointer (some ⟨b,off,none⟩)
def Z{α:Type}(r:Rp α)(T:TypeId)(b:Nat)(x:α):OE where
 fp:=fun k=>k=b
 p:=fun w S=>S b=none/\ ∃c,w.heap[b]? =some (.cells c T (0,0))/\r.rc S c.toList x
 here:=by
  intro w S h k hk
  subst hk
  obtain⟨Y,c,H,_⟩:=h
  exact(D9.1 H).1
 kept:=by
  intro C w w' S S' h k hC
  obtain⟨Y,c,H,Q⟩:=h
  have hlt:=(D9.1 H).1
  exact⟨by rw [k.old b hlt (hC b rfl)];exact Y,c,by rw [k.heap b hlt (hC b rfl)];exact H,r.mono k.keep Q⟩
def rV:Rp Value where
 sz:=1
 agg:=false
 rc:=fun _ cs v=>cs=[v]/\v.oneCell' =true
 mono:=fun _ h=>h
 len:=fun h=>by rw [h.1];rfl
 one:=fun h c hc=>by rw [h.1]at hc;simp at hc;subst hc;exact h.2
 sc:=fun _=>rfl
def vy{u:Value}:(tD rV u).p S v↔v=u/\u.oneCell' =true:=by
 constructor
 ·rintro⟨cs,rfl,Y,H⟩;subst Y;exact⟨rfl,H⟩
 ·rintro⟨rfl,h⟩;exact⟨[v],rfl,rfl,h⟩
def eE{α β:Type}(r:Rp α)(off:Nat)(q:Rp β)(set:α->β->α):Prop:= ∀S cs x ds y,r.rc S cs x->q.rc S ds y->r.rc S (cs.take off++ds++cs.drop (off+q.sz)) (set x y)
section
variable{E:En}{e:Exit}
def St.settleB{r:Rp α}{b:Nat}{x:α}(h:St E (Z r T b x::O) G a w S)(hk:b8 G k=some (K (M b 0))): ∃S',St E O ((k,cH r x)::G) a w S' :=by
 obtain⟨⟨hn,cur,Q,h4⟩,_⟩:=h.own.1
 obtain⟨h8,hle,_,_⟩:=wO h rfl Q (qY _) hn
 have hv:a.tmps.getD k undef=M b 0:=h.facts.at_ k _ hk
 refine⟨_,h8.cons ⟨b,0,cur,T,(0,0),hv,by simp [SH.set],?_⟩⟩
 have hl:cur.size=r.sz:=by have:=r.len h4;simpa using this
 have:=r.mono hle h4
 rw [Ar,sb (by simp [hl])];exact this
def bg{r:Rp α}{b:Nat}{x:α}(k:Nat)(hk:b8 G k=some (K (M b 0)))(h:RG E ops h3 rest O ((k,cH r x)::G)):RG E ops h3 rest (Z r T b x::O) G:=
 fun a w _ st=>let⟨S',st'⟩:=st.settleB hk;h a w S' st'
def gg{r:Rp α}{b:Nat}{x:α}(k:Nat)(hk:b8 G k=some (K (M b 0)))(h:AT E h3 e O ((k,cH r x)::G)):AT E h3 e (Z r T b x::O) G:=
 fun a w _ st=>let⟨S',st'⟩:=st.settleB hk;h a w S' st'
section
variable{ty:TypeId}
def bw{r:Rp α}{x:α}{sz:Nat}{agg:Bool}(ti:TI E.P T sz bytes agg z)(V: ∀S,r.rc S z x)(hd:Nat.blt aN E.N.n=true)(k: ∀b,RG E ops h3 rest (Z r T b x::O) ((aN,K (M b 0))::G)):RG E ops h3 (⟨some aN,.alloc T,ty,pos,after,none⟩::rest) O G:= .of rfl fun a w S st=>by
 obtain⟨zv,hzr,hzc⟩:=ti.zero w
 obtain⟨he,hs',hno⟩:=iG (w:=w) (.cells z.toArray T (0,0)) st.sat
 have hrun:(execOp a.eval ⟨some aN,.alloc T,ty,pos,after,none⟩).run E.P w= .ok (.value (M w.heap.size 0)) (w.alloc (.cells z.toArray T (0,0))):=by
  simp [execOp,Instr.alloc,hzr,newVar,newRow,hzc,M]
 refine⟨fun c h=>(by cases h),?_⟩
 rw [hrun]
 exact k w.heap.size _ _ S ⟨st.ext.step0 he,hs',pJ st.own he ⟨hno,z.toArray,Aq w _,by simpa using V S⟩ (fun b W=>xx W.symm) st.base_le,st.facts.put hd rfl⟩
def qx{r:Rp α}{v:α}(V:aI E.N G x (tD r v))(hd:Nat.blt aN E.N.n=true)(k: ∀b,RG E ops h3 rest (Z r T b v::O) ((aN,K (M b 0))::G)):RG E ops h3 (⟨some aN,.box T x,ty,pos,after,none⟩::rest) O G:= .of rfl fun a w S st=>by
 obtain⟨cs,hv,hc⟩:=V S a st.facts
 obtain⟨he,hs',hno⟩:=iG (w:=w) (.cells cs.toArray T (0,0)) st.sat
 have hrun:(execOp a.eval ⟨some aN,.box T x,ty,pos,after,none⟩).run E.P w= .ok (.value (M w.heap.size 0)) (w.alloc (.cells cs.toArray T (0,0))):=by
  simp [execOp,Instr.box,newVar,newRow,hv,sI hc,M]
 refine⟨fun c h=>(by cases h),?_⟩
 rw [hrun]
 exact k w.heap.size _ _ S ⟨st.ext.step0 he,hs',pJ st.own he ⟨hno,cs.toArray,Aq w _,by simpa using hc⟩ (fun b W=>xx W.symm) st.base_le,st.facts.put hd rfl⟩
def lV{base:Nat}{B:Nat->Prop}{b:Nat}(hs:kV w S)(f f' :OE)(h:dL base B w S (f::O))(hf: ∀k,f.fp k↔k=b)(hf' : ∀k,f'.fp k↔k=b)(X:w'.os=w.os/\w'.tape=w.tape/\w'.output=w.output/\w'.heap.size=w.heap.size/\w.drawn<=w'.drawn)(ho: ∀k,k≠b->w'.heap[k]? =w.heap[k]?)(hp:f'.p w' S)(hno:S b=none):jc (fun k=>k=b) w S w' S/\kV w' S/\dL base B w' S (f' ::O):=by
 have hext:jc (fun k=>k=b) w S w' S:=⟨X.1,X.2.1,X.2.2.1,X.2.2.2.2,by omega,fun k _ hk=>ho k hk,SH.le_refl _,fun _ _ _=>rfl⟩
 refine⟨hext,hs.same fun k o hk=>?_,⟨hp,fun k hk=>h.1.2 k ((hf k).2 ((hf' k).1 hk))⟩,fun g hgm k hk=>h.2.1 g hgm k ((hf k).2 ((hf' k).1 hk)),h.2.2.ext hext fun g hgm k hk hkb=>h.2.1 g hgm k ((hf k).2 hkb) hk⟩
 have hne:k≠b:=fun e=>by subst e;rw [hno]at hk;cases hk
 exact ho k hne
def iY{P:Program}{q:Rp α}{sz:Nat}{agg:Bool}(ti:TI P U sz bytes agg z)(hsz:q.sz=sz){ds:List Value}{y:α}(hy:q.rc S ds y){b:Nat}{cur:Array Value}(X:w.heap[b]? =some (.cells cur T (0,0)))(hfit:off+q.sz<=cur.size):
  ∃w',(storeVar U ⟨b,off,none⟩ (q.val ds)).run P w= .ok () w' /\w'.os=w.os/\w'.tape=w.tape/\w'.output=w.output/\(w'.heap.size=w.heap.size/\w.drawn<=w'.drawn)/\w'.heap[b]? =some (.cells (cur.toList.take off++ds++cur.toList.drop (off+q.sz)).toArray T (0,0))/\ ∀k,k≠b->w'.heap[k]? =w.heap[k]? :=by
 have hl:=q.len hy
 have hst:=run_storeCells_at P b off T ds 0 cur w X (by omega) (q.one hy)
 simp only [zr]at hst
 refine⟨w.setRow b (cur.toList.take off++ds++cur.toList.drop (off+ds.length)).toArray,?_,rfl,rfl,rfl,⟨?_,jW _⟩,?_,fun k hk=>setRow_other w b k _ hk⟩
 ·generalize (cur.toList.take off++ds++cur.toList.drop (off+ds.length)).toArray=hg at hst ⊢
  simp only [storeVar,rl,ti.sizeOf,sF,sI hy,CS,hl,hsz]
  simp only [ne_eq,not_true_eq_false,md]
  simpa using hst
 ·simp [World.setRow]
 ·rw [setRow_heap w b cur _ T _ X,<-hl]
def dV{r:Rp α}{set:α->β->α}{x:α}{y:β}{b sz:Nat}{agg:Bool}{p v:Operand}(ti:TI E.P U sz bytes agg z)(hsz:q.sz=sz)(hset:eE r off q set)(hoff:Nat.ble (off+q.sz) r.sz=true)(hp:aI E.N G p (K (M b off)))(hv:aI E.N G v (tD q y))(k:RG E ops h3 rest (Z r T b (set x y)::O) G):RG E ops h3 (⟨none,.store U p v,ty,pos,after,none⟩::rest) (Z r T b x::O) G:= .of rfl fun a w S st=>by
 have Y:a.eval p=M b off:=hp S a st.facts
 obtain⟨ds,H,Q⟩:=hv S a st.facts
 obtain⟨⟨hno,cur,h5,h6⟩,_⟩:=st.own.1
 have hl:=r.len h6
 have hoff' :=pN hoff
 obtain⟨w',hr,e1,e2,e3,e4,e5,e6⟩:=iY ti hsz Q h5 (off:=off) (by simp at hl;omega)
 have hrun:(execOp a.eval ⟨none,.store U p v,ty,pos,after,none⟩).run E.P w= .ok .skip w' :=by
  simp [execOp,Y,H,Instr.storeAt,M,Instr.sureAddr,hr]
 refine⟨fun c h=>(by cases h),?_⟩
 rw [hrun]
 obtain⟨g1,g2,g3⟩:=lV (O:=O) st.sat (Z r T b x) (Z r T b (set x y)) st.own (fun _=>qM) (fun _=>qM) ⟨e1,e2,e3,e4.1,e4.2⟩ e6 ⟨hno,_,e5,by simpa using hset S _ _ _ _ h6 Q⟩ hno
 exact k _ _ S ⟨st.ext.step g1 (fun c hc=>st.own.1.2 c hc),g2,g3,st.facts⟩
def aB{r:Rp α}:eE r 0 r (fun _ y=>y):=fun S cs x ds y Y H=>by
 have hl:=r.len Y
 simpa [<-hl] using H
end
section
variable{ty:TypeId}
def CF{sz b o:Nat}{p:Operand}(hf:bv E.P T i=some (off,sz))(h0:Nat.beq sz 0=false)(hp:aI E.N G p (K (M b o))):b9 E O G ⟨dst,.fieldAddr T p i,ty,pos,after,g⟩ (K (M b (o+off))):=
 .of_pure fun a w S _ _ hF=>by
  have Y:a.eval p=M b o:=hp S a hF
  obtain⟨fs,f,e1,e2,e3,e4⟩:=Dj hf
  have h0' :sz≠0:=fun e=>by subst e;simp at h0
  refine⟨M b (o+off),?_,rfl⟩
  simp [execOp,Y,M,Instr.fieldAt,iv e1,e2,Instr.sureAddr,fieldPlace,e4,h0',e3,hZ]
def aE{r:Rp α}{get:α->β}{x:α}{b sz:Nat}{agg:Bool}{p:Operand}(ti:TI E.P U sz bytes agg z)(hsz:q.sz=sz)(hag:q.agg=agg)(hget:j6 r off q get)(hm:Z r T b x∈O)(hp:aI E.N G p (K (M b off))):
  b9 E O G ⟨dst,.load U p,ty,pos,after,g⟩ (tD q (get x)):=
 .of_pure fun a w S _ ho hf=>by
  have Y:a.eval p=M b off:=hp S a hf
  obtain⟨⟨_,cur,h5,h6⟩,_⟩:=ho.mem _ hm
  have h7:=hget S _ _ h6
  refine⟨_,?_,_,rfl,h7⟩
  simp [execOp,Y,M,Instr.loadAt,Instr.sureAddr,jF ti h5 hsz hag h7]
def bo{r:Rp α}:j6 r 0 r (fun x=>x):=fun S cs x h=>by
 have hl:=r.len h
 simpa [<-hl] using h
end
end
end Go.Proofs.YtdohlidddcgfjaaGreat

