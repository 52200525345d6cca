/- bO of this claim: W1, W49, W2, W3, W4, W5, W6, W7, W8, W9, W10, W11, W12, W13. -/
import Derived.WalkKit
import Derived.Orders
import Derived.Lone
import Derived.RunT
import Derived.Calls
import Derived.RangeFuncIn
import Derived.TacticsIn
import Derived.OrdersIn
import Derived.LoopIn
import Derived.Laws.AppendOwn
import Derived.Deep.Upon
import Derived.Lib.AppendStr
import Derived.IntWalk
set_option linter.all false
-- TABI
namespace Go.Proofs.YtdohlidddcgfjaaGreat
open Go
def bg:= @Option.bind_some
def aV:= @if_neg
def bo:= @if_pos
def q8:= @List.getElem?_eq_some_iff
def nQ:= @List.mem_cons_self
def o4:= @List.mem_cons_of_mem
def nP:= @Bool.and_eq_true
def oB:= @List.append_assoc
def sG:= @List.getElem?_eq_getElem
def dY:= @Nat.le_refl
def iR:= @List.length_cons
def kJ:= @List.length_append
def iQ:= @run_underlying
def oq:= @Nat.eq_of_beq_eq_true
def mg:= @decide_eq_true_eq
def lw:= @List.all_eq_true
def zt19:= @List.length_flatMap
def nj:= @Bool.false_eq_true
def j8:= @List.mem_cons
def tA:= @List.eq_nil_of_length_eq_zero
def mo:= @List.nil_append
def qR:= @Nat.le_of_ble_eq_true
def rQ:= @List.take_append_drop
def oD:= @Option.map_some
def vz:= @List.getElem?_append_right
def tz:= @List.take_of_length_le
def ni:= @Bool.true_and
def sI:= @List.mem_of_getElem?
def px:= @Option.some.inj
def nf:= @Nat.lt_or_ge
def qd:= @IntKind.wrap_i64
def xp:= @List.getElem?_take_of_lt
def jl:= @if_true
def xW:= @Array.getElem?_replicate
def oC:= @Nat.zero_le
def kQ:= @if_false
def yS:= @List.getElem?_append_left
def Bw:= @List.take_append_of_le_length
def uB:= @List.getElem?_drop
def tS:= @Result.andThen_ok
def Ae:= @List.drop_eq_getElem_cons
def rP:= @List.drop_drop
def tv:= @List.append_nil
def rk:= @Bool.not_true
def vK:= @Nat.lt_of_lt_of_le
def yR:= @Nat.mul_le_mul_right
def tu:= @Bool.false_or
def vx:= @List.length_nil
def uA:= @Bool.and_assoc
def sH:= @Sem.run_bind
def qQ:= @beq_iff_eq
def vJ:= @Nat.min_eq_left
def vI:= @Bool.eq_iff_iff
def FP:= @Array.getD_eq_getD_getElem?
def FO:= @Array.getElem?_eq_some_iff
def xV:= @List.mem_append
def Ad:= @Int.toNat_natCast
def D1:= @Option.map_eq_some_iff
def D0:= @List.drop_eq_nil_of_le
def vw:= @Nat.zero_add
def tt:= @Nat.blt_eq
def Ab:= @Bool.not_eq_true
def Aa:= @decide_eq_decide
def xn:= @getD_set_true
def z8:= @Nat.lt_succ_self
def FN:= @List.drop_of_length_le
def yN:= @List.take_take
def z7:= @IntKind.wrap_u8
def z6:= @Bool.or_eq_true
def Bt:= @List.length_drop
def Bs:= @IntKind.wrap_u64
def vH:= @Nat.add_mul
def z2:= @List.drop_zero
def Br:= @List.length_set
def DY:= @List.mem_singleton
def B3:= @List.cons_append
def B2:= @List.any_eq_true
def B1:= @List.take_length
def B0:= @List.length_take
def DW:= @Bool.not_eq_true'
def DV:= @List.flatMap_cons
def Hh:= @List.drop_eq_nil_iff
def Hg:= @Bool.and_eq_true_iff
def EF:= @Int.fdiv_eq_ediv_of_nonneg
def vN:= @heap_alloc_new
def yZ:= @Option.bind_assoc
def yY:= @Function.comp_def
def AY:= @Array.length_toList
def Ce:= @List.length_replicate
def Cd:= @List.getElem?_eq_none
def vn:= @Nat.sub_self
def vM:= @List.cons.inj
def xz:= @List.drop_take
def Cc:= @List.mem_append_left
def EE:= @List.getElem?_cons_zero
def rU:= @mem_ready
def yX:= @Option.bind_map
def vm:= @getD_set_ne
def yW:= @Bool.not_false
def vL:= @Prod.mk.inj
def AX:= @decide_eq_false
def xy:= @Nat.le_trans
def B8:= @Bool.eq_false_iff
def yV:= @List.all_cons
def Lx:= @List.drop_append_of_le_length
def yU:= @Nat.le_of_eq
def rR:= @Iff.rfl
def Hk:= @List.contains_iff_mem
def AW:= @Bool.or_false
def EB:= @List.size_toArray
def xx:= @bne_iff_ne
def yT:= @Nat.mul_one
def Oz:= @List.take_succ_eq_append_getElem
def AV:= @Bool.or_true
def Lw:= @Nat.add_right_cancel_iff
def EA:= @List.getElem_mem
def AU:= @Nat.add_zero
def Hj:= @List.map_congr_left
def Lu:= @decide_eq_false_iff_not
def B6:= @List.map_cons
def Ez:= @List.length_map
def Lt:= @Array.toList_replicate
def Ls:= @MapKept.run_getObj_map
def Hi:= @List.getElem?_map
def Lr:= @List.countP_replicate
def B5:= @List.mem_map
def B4:= @Bool.true_or
def Lq:= @MapKept.run_checkKey

def Hf:Obj->Obj->Prop
 | .cells c E fr,o' => ∃aL:List Value,o' = .cells (c.toList++aL).toArray E fr
 |o,o' =>o' =o
variable{o:Oper}
def sj(o:Obj):Hf o o:=by
 cases o<;>first|rfl|exact⟨[],by simp⟩
variable{c:Code}{cells:List Value}{aL:Nat}{fr:Nat×Nat}{k:Nat}{o' :Obj}
def E7{o o'' :Obj}(h:Hf o o')(k:Hf o' o''):Hf o o'' :=by
 cases o with
 |cells c E fr=>
  obtain⟨aL,rfl⟩:=h
  obtain⟨d',rfl⟩:=k
  exact⟨aL++d',by simp⟩
 |_=>cases h;exact k
variable{off:Nat}
def CU{c:Array Value}{E:TypeId}(h:Hf (.cells c E fr) o'){n:Nat}(hl:((c.toList.drop off).take n).length=n):
  ∃c',o' = .cells c' E fr/\(c'.toList.drop off).take n=(c.toList.drop off).take n:=by
 obtain⟨aL,rfl⟩:=h
 refine⟨_,rfl,?_⟩
 by_cases hn:n=0
 ·subst hn;simp
 simp only [B0,Bt]at hl
 rw [Lx (by omega),Bw (by simp only [Bt];omega)]
abbrev SH:=Nat->Option Obj
def SH.le(S S' :SH):Prop:= ∀b o,S b=some o-> ∃o',S' b=some o' /\Hf o o'
variable{S:SH}
def SH.le_refl(S:SH):SH.le S S:=fun _ o h=>⟨o,h,sj o⟩
variable{S' S'' :SH}{b:Bool}{e:TypeId}
def SH.le_trans(h:SH.le S S')(k:SH.le S' S''):SH.le S S'' :=fun b o e=>let⟨o',Y,H⟩:=h b o e;let⟨o'',s,h4⟩:=k b o' Y;⟨o'',s,E7 H h4⟩
structure Ty where
 p:SH->Value->Prop
 mono: ∀{S S' :SH} {v:Value},SH.le S S' ->p S v->p S' v

structure Rp(α:Type) where
 sz:Nat
 agg:Bool
 rc:SH->List Value->α->Prop
 mono: ∀{S S' :SH} {cs:List Value} {x:α},SH.le S S' ->rc S cs x->rc S' cs x
 len: ∀{S:SH} {cs:List Value} {x:α},rc S cs x->cs.length=sz
 one: ∀{S:SH} {cs:List Value} {x:α},rc S cs x-> ∀c∈cs,c.oneCell' =true
 sc:agg=false->sz=1

def Rp.val{α:Type}(r:Rp α)(cs:List Value):Value:=if r.agg then .agg cs.toArray else cs.headD undef

def tD{α:Type}(r:Rp α)(x:α):Ty where
 p:=fun S v=> ∃cs,v=r.val cs/\r.rc S cs x
 mono:=fun h ⟨cs,e,k⟩=>⟨cs,e,r.mono h k⟩

def Cs:Ty where
 p:=fun _ _=>True
 mono:=fun _ _=>trivial

def K(u:Value):Ty where
 p:=fun _ v=>v=u
 mono:=fun _ h=>h

def rI(k:IntKind):Rp Int where
 sz:=1
 agg:=false
 rc:=fun _ cs x=>cs=[.int k x]
 mono:=fun _ h=>h
 len:=fun h=>by rw [h];rfl
 one:=fun h c hc=>by subst h;simp at hc;subst hc;rfl
 sc:=fun _=>rfl

def rB:Rp Bool where
 sz:=1
 agg:=false
 rc:=fun _ cs x=>cs=[.bool x]
 mono:=fun _ h=>h
 len:=fun h=>by rw [h];rfl
 one:=fun h c hc=>by subst h;simp at hc;subst hc;rfl
 sc:=fun _=>rfl

abbrev QQ:=List UInt8
def rS:Rp QQ where
 sz:=1
 agg:=false
 rc:=fun _ cs x=>cs=[.string ⟨x.toArray⟩]
 mono:=fun _ h=>h
 len:=fun h=>by rw [h];rfl
 one:=fun h c hc=>by subst h;simp at hc;subst hc;rfl
 sc:=fun _=>rfl

variable{cs:List Value}{v:Value}
def dE{k:IntKind}{n:Int}:(tD (rI k) n).p S v↔v= .int k n:=by
 constructor
 ·rintro⟨cs,rfl,h⟩;have h' :cs=[.int k n]:=h;subst h';rfl
 ·rintro rfl;exact⟨[.int k n],rfl,rfl⟩
def iS:(tD rB b).p S v↔v= .bool b:=by
 constructor
 ·rintro⟨cs,rfl,h⟩;have h' :cs=[.bool b]:=h;subst h';rfl
 ·rintro rfl;exact⟨[.bool b],rfl,rfl⟩
variable{h3:QQ}
def Ah:(tD rS h3).p S v↔v= .string ⟨h3.toArray⟩:=by
 constructor
 ·rintro⟨cs,rfl,h⟩;have h' :cs=[.string ⟨h3.toArray⟩]:=h;subst h';rfl
 ·rintro rfl;exact⟨[.string ⟨h3.toArray⟩],rfl,rfl⟩

def qa{α:Type}(r:Rp α)(S:SH):List Value->List α->Prop
 |cs,[]=>cs=[]
 |cs,x::xs=> ∃a b,cs=a++b/\r.rc S a x/\qa r S b xs
variable{a:Act}{α:Type}{xs:List α}
def qW{α:Type}{r:Rp α}{S S' :SH}(h:SH.le S S'): ∀{xs:List α} {cs:List Value},qa r S cs xs->qa r S' cs xs
 |[],_,k=>k
 |_::_,_,⟨a,b,e,Y,H⟩=>⟨a,b,e,r.mono h Y,qW h H⟩
variable{x:Operand}
def jT{α:Type}{r:Rp α}{S:SH}: ∀{xs:List α} {cs:List Value},qa r S cs xs->cs.length=xs.length*r.sz
 |[],_,k=>by rw [show _=_ from k];simp
 |x::xs,_,⟨a,b,e,Y,H⟩=>by rw [e,kJ,r.len Y,jT H,iR,vH];omega
def wX{α:Type}{r:Rp α}{S:SH}: ∀{xs:List α} {cs:List Value},qa r S cs xs-> ∀c∈cs,c.oneCell' =true
 |[],_,k,c,hc=>by rw [show _=_ from k]at hc;cases hc
 |x::xs,_,⟨a,b,e,Y,H⟩,c,hc=>by
  rw [e]at hc
  rcases xV.1 hc with h|h
  ·exact r.one Y c h
  ·exact wX H c h
variable{ys:List α}
def qk{α:Type}{r:Rp α}{S:SH}: ∀{xs ys:List α} {cs ds:List Value},qa r S cs xs->qa r S ds ys->qa r S (cs++ds) (xs++ys)
 |[],_,_,_,k,h=>by rw [show _=_ from k];exact h
 |_::_,_,_,_,⟨a,b,e,Y,H⟩,h=>⟨a,_,by rw [e,oB],Y,qk H h⟩
def pd{α:Type}{r:Rp α}{S:SH}: ∀{xs ys:List α} {cs:List Value},qa r S cs (xs++ys)->
  qa r S (cs.take (xs.length*r.sz)) xs/\qa r S (cs.drop (xs.length*r.sz)) ys
 |[],_,_,k=>by simp [qa];exact k
 |x::xs,ys,cs,⟨a,b,e,Y,H⟩=>by
  have hl:=r.len Y
  have ih:=pd H
  have e1:(x::xs).length*r.sz=a.length+xs.length*r.sz:=by rw [hl,iR,vH];omega
  rw [e,e1,List.take_length_add_append,List.drop_length_add_append]
  exact⟨⟨a,_,rfl,Y,ih.1⟩,ih.2⟩
def Ka{r:Rp α}{x:α}:qa r S cs [x]↔r.rc S cs x:=by
 constructor
 ·rintro⟨a,b,rfl,h,W⟩
  rw [show b=[]from W,tv];exact h
 ·intro h;exact⟨cs,[],by simp,h,rfl⟩
variable{i:Nat}
def zc{r:Rp α}(h:qa r S cs xs){x:α}(X:xs[i]? =some x):
  r.rc S ((cs.drop (i*r.sz)).take r.sz) x:=by
 have hi:i<xs.length:=(q8.1 X).1
 have e:xs=xs.take i++(x::xs.drop (i+1)):=by
  have:=q8.1 X
  rw [<-this.2,<-Ae hi,rQ]
 have hl:(xs.take i).length=i:=by simp;omega
 rw [e]at h
 have H:=(pd h).2
 rw [hl]at H
 obtain⟨a,b,e2,s,_⟩:=H
 rw [e2,<-r.len s,List.take_left]
 exact s

def ES{α:Type}(r:Rp α)(S:SH)(a:Option Addr)(xs:List α):Prop:=
 xs=[]\/ ∃b off c E fr,a=some ⟨b,off,none⟩/\S b=some (.cells c E fr)/\qa r S ((c.toList.drop off).take (xs.length*r.sz)) xs
def gE{α:Type}(r:Rp α):Rp (List α) where
 sz:=1
 agg:=false
 rc:=fun S cs xs=> ∃a cap,cs=[.slice a xs.length cap]/\xs.length<=cap/\cap<=maxLen/\ES r S a xs
 mono:=fun h ⟨a,cap,e,Y,H,s⟩=>⟨a,cap,e,Y,H,s.imp id fun⟨b,off,c,E,fr,e1,e2,e3⟩=>by
  obtain⟨o',h4,h5⟩:=h _ _ e2
  obtain⟨c',rfl,h6⟩:=CU h5 (jT e3)
  exact⟨b,off,c',E,fr,e1,h4,by rw [h6];exact qW h e3⟩⟩
 len:=fun⟨a,cap,e,_⟩=>by rw [e];rfl
 one:=fun⟨a,cap,e,_⟩ c hc=>by rw [e]at hc;simp at hc;subst hc;rfl
 sc:=fun _=>rfl
variable{cap:Nat}
def jw{r:Rp α}:(tD (gE r) xs).p S v↔ ∃a cap,v= .slice a xs.length cap/\xs.length<=cap/\cap<=maxLen/\ES r S a xs:=by
 constructor
 ·rintro⟨cs,rfl,a,cap,rfl,h⟩;exact⟨a,cap,rfl,h⟩
 ·rintro⟨a,cap,rfl,h⟩;exact⟨_,rfl,a,cap,rfl,h⟩
def F3{r:Rp α}:(tD (gE r) []).p S (.slice none 0 0):=jw.2 ⟨none,0,rfl,dY _,oC _,.inl rfl⟩

def c8{α:Type}(r:Rp α)(x:α):Ty where
 p:=fun S v=> ∃b off c E fr,v= .pointer (some ⟨b,off,none⟩)/\S b=some (.cells c E fr)/\r.rc S ((c.toList.drop off).take r.sz) x
 mono:=fun h ⟨b,off,c,E,fr,e1,e2,e3⟩=>by
  obtain⟨o',h4,h5⟩:=h _ _ e2
  obtain⟨c',rfl,h6⟩:=CU h5 (r.len e3)
  exact⟨b,off,c',E,fr,e1,h4,by rw [h6];exact r.mono h e3⟩

def WK:List (Nat×List Value):=[]
def Wm(w:World):Prop:=True
structure lJ(w:World)(S:SH):Prop where
 at_: ∀b o,S b=some o-> ∃o',w.heap[b]? =some o' /\Hf o o'
 gl: ∀p∈WK,∃c T fr,S p.1=some (.cells c T fr)/\c.toList.take p.2.length=p.2
 tb: ∀w' :World,(∀b o,S b=some o-> ∃o',w'.heap[b]? =some o' /\Hf o o')->Wm w'
instance{w:World}{S:SH}:CoeFun (lJ w S) (fun _=> ∀b o,S b=some o-> ∃o',w.heap[b]? =some o' /\Hf o o'):=⟨lJ.at_⟩
variable{w:World}
def lJ.lt(h:lJ w S){b:Nat}{o:Obj}(k:S b=some o):b<w.heap.size:=let⟨_,Y,_⟩:=h b o k;(FO.1 Y).1
def lJ.part(h:lJ w S){b:Nat}{c:Array Value}{E:TypeId}(k:S b=some (.cells c E fr)){n:Nat}(hl:((c.toList.drop off).take n).length=n):
  ∃c',w.heap[b]? =some (.cells c' E fr)/\(c'.toList.drop off).take n=(c.toList.drop off).take n:=by
 obtain⟨o',Y,H⟩:=h b _ k
 obtain⟨c',rfl,s⟩:=CU H hl
 exact⟨c',Y,s⟩
variable{w' :World}
def lJ.same(h:lJ w S)(k: ∀b o,S b=some o->w'.heap[b]? =w.heap[b]?):lJ w' S:=⟨fun b o e=>by rw [k b o e];exact h b o e,h.gl,h.tb⟩

def sJ:Nat->Prop:=fun _=>False
structure jK(B:Nat->Prop)(w:World)(S:SH)(w' :World)(S' :SH):Prop where
 os:w'.os=w.os
 tape:w'.tape=w.tape
 output:w'.output=w.output
 drawn:w.drawn<=w'.drawn
 size:w.heap.size<=w'.heap.size
 heap: ∀k,k<w.heap.size-> ¬B k->w'.heap[k]? =w.heap[k]?
 keep:SH.le S S'
 old: ∀k,k<w.heap.size-> ¬B k->S' k=S k
def iP(B:Nat->Prop)(w:World)(S:SH):jK B w S w S:=⟨rfl,rfl,rfl,dY _,dY _,fun _ _ _=>rfl,SH.le_refl _,fun _ _ _=>rfl⟩
variable{w'' :World}
def jK.trans{B:Nat->Prop}(h:jK B w S w' S')(k:jK B w' S' w'' S''):jK B w S w'' S'' :=
 ⟨k.os.trans h.os,k.tape.trans h.tape,k.output.trans h.output,xy h.drawn k.drawn,xy h.size k.size,
  fun i hi W=>(k.heap i (vK hi h.size) W).trans (h.heap i hi W),SH.le_trans h.keep k.keep,
  fun i hi W=>(k.old i (vK hi h.size) W).trans (h.old i hi W)⟩
variable{C:Nat->Prop}
def jK.step{B:Nat->Prop}(h:jK B w S w' S')(k:jK C w' S' w'' S'')(hC: ∀b,C b->w.heap.size<=b\/B b):jK B w S w'' S'' :=
 ⟨k.os.trans h.os,k.tape.trans h.tape,k.output.trans h.output,xy h.drawn k.drawn,xy h.size k.size,
  fun i hi W=>(k.heap i (vK hi h.size) (fun hc=>(hC i hc).elim (fun h=>by omega) W)).trans (h.heap i hi W),SH.le_trans h.keep k.keep,
  fun i hi W=>(k.old i (vK hi h.size) (fun hc=>(hC i hc).elim (fun h=>by omega) W)).trans (h.old i hi W)⟩
def jK.more{B:Nat->Prop}(h:jK B w S w' S')(k: ∀b,B b->C b):jK C w S w' S' :=
 ⟨h.os,h.tape,h.output,h.drawn,h.size,fun i hi W=>h.heap i hi (fun h=>W (k i h)),h.keep,fun i hi W=>h.old i hi (fun h=>W (k i h))⟩
def jK.step0{B:Nat->Prop}(h:jK B w S w' S')(k:jK sJ w' S' w'' S''):jK B w S w'' S'' :=h.step k fun _ W=>W.elim

structure OE where
 fp:Nat->Prop
 p:World->SH->Prop
 here: ∀{w S},p w S-> ∀k,fp k->k<w.heap.size
 kept: ∀{C w w' S S'},p w S->jK C w S w' S' ->(∀k,fp k-> ¬C k)->p w' S'
def OE.holds(e:OE)(base:Nat)(B:Nat->Prop)(w:World)(S:SH):Prop:=e.p w S/\ ∀k,e.fp k->base<=k\/B k
def OE.apart(e f:OE):Prop:= ∀b,e.fp b-> ¬f.fp b
def d9(base:Nat)(B:Nat->Prop)(w:World)(S:SH):List OE->Prop
 |[]=>True
 |e::O=>e.holds base B w S/\(∀f∈O,e.apart f)/\d9 base B w S O
def G8{e:OE}{base:Nat}{B:Nat->Prop}(h:e.holds base B w S)(k:jK C w S w' S')(hC: ∀b,e.fp b-> ¬C b):e.holds base B w' S' :=⟨e.kept h.1 k hC,h.2⟩
variable{O:List OE}{f:FuncId}
def d9.ext{base:Nat}{B:Nat->Prop}(k:jK C w S w' S'): ∀{O:List OE},d9 base B w S O->(∀e∈O,∀b,e.fp b-> ¬C b)->d9 base B w' S' O
 |[],_,_=>trivial
 |e::_,⟨Y,H,s⟩,hC=>⟨G8 Y k (hC e (nQ ..)),H,d9.ext k s fun f hf=>hC f (o4 _ hf)⟩
def d9.ext0{base:Nat}{B:Nat->Prop}(k:jK sJ w S w' S')(h:d9 base B w S O):d9 base B w' S' O:=
 h.ext k fun _ _ _ _ W=>W
def d9.mem{base:Nat}{B:Nat->Prop}: ∀{O:List OE},d9 base B w S O-> ∀e∈O,e.holds base B w S
 |_::_,⟨Y,_,_⟩,_,.head _=>Y
 |_::_,⟨_,_,s⟩,_,.tail _ hm=>d9.mem s _ hm

abbrev lv:=List (Nat×Ty)
def cn:lv->Nat->Option Ty
 |[],_=>none
 |(k,t)::G,j=>bif Nat.beq k j then some t else cn G j
structure Fr where
 n:Nat
 ds:List Deferred
structure bO(N:Fr)(S:SH)(a:Act)(G:lv):Prop where
 size:a.tmps.size=N.n
 defers:a.defers=N.ds
 at_: ∀k t,cn G k=some t->t.p S (a.tmps.getD k undef)
variable{G:lv}{j:Nat}{t:Ty}
def bO.mono{N:Fr}(h:bO N S a G)(k:SH.le S S'):bO N S' a G:=⟨h.size,h.defers,fun j t e=>t.mono k (h.at_ j t e)⟩
def bO.sub{N:Fr}{G' :lv}(h:bO N S a G)(k: ∀j t,cn G' j=some t->cn G j=some t):bO N S a G' :=⟨h.size,h.defers,fun j t e=>h.at_ j t (k j t e)⟩
variable{u:OE}
def bO.put{N:Fr}(h:bO N S a G)(hd:Nat.blt aL N.n=true)(hv:t.p S v):bO N S (a.put (some aL) v) ((aL,t)::G):=by
 have hd' :aL<N.n:=by simpa [tt] using hd
 refine⟨by simp [Act.put,h.size],h.defers,fun j u e=>?_⟩
 unfold cn at e
 by_cases hj:aL=j
 ·subst hj
  have e' :t=u:=by simpa using e
  rw [e']at hv
  simp [Act.put,FP,h.size,hd',hv]
 ·have W:Nat.beq aL j=false:=by cases hh:Nat.beq aL j with
   |false=>rfl
   |true=>exact absurd (oq hh) hj
  rw [W]at e
  have:=h.at_ j u e
  simpa [Act.put,FP,Array.getElem?_setIfInBounds,hj] using this
def M5:lv->lv->Prop
 |[],_=>True
 |(k,t)::G',G=>cn G k=some t/\M5 G' G
def EQ: ∀{G' G:lv},M5 G' G-> ∀j t,cn G' j=some t->cn G j=some t
 |(k,t)::G',G,⟨Y,H⟩,j,u,e=>by
  unfold cn at e
  by_cases W:Nat.beq k j=true
  ·rw [W]at e
   have:=oq W
   subst this
   simp only [cond_true]at e
   rw [<-e];exact Y
  ·rw [Ab]at W
   rw [W]at e
   exact EQ H j u e

def aI(N:Fr)(G:lv)(x:Operand)(t:Ty):Prop:= ∀S a,bO N S a G->t.p S (a.eval x)
def D{N:Fr}(h:cn G k=some t):aI N G (.tmp k) t:=fun _ _ hF=>hF.at_ k t h
def hI{N:Fr}{k:IntKind}{n:Int}:aI N G (.const (.int k n)) (tD (rI k) n):=fun _ _ _=>dE.2 rfl
def hB{N:Fr}:aI N G (.const (.bool b)) (tD rB b):=fun _ _ _=>iS.2 rfl
def hS{N:Fr}{h3:Array UInt8}:aI N G (.const (.string ⟨h3⟩)) (tD rS h3.toList):=fun _ _ _=>Ah.2 rfl
def RY{N:Fr}{r:Rp α}:aI N G (.const (.slice none 0 0)) (tD (gE r) []):=fun _ _ _=>F3
def hV{N:Fr}:aI N G (.const v) (K v):=fun _ _ _=>rfl

section
variable{P:Program}
end

def fw(r:Option Nat):Fence:={fn:=fun _=>True,depth:=none,alive:=false,round:=r}
variable{args:α->List Ty}
def ve{r:Option Nat}{n:Nat}{P:Program}{args:Array Value}{R:Ending->World->Prop}:CallsIn (fw r) n P f args w R↔Calls P f args w R:=callsIn_wide
def IJ{r:Option Nat}{n:Nat}:(fw r).depth.isSome=true->1<=n:=fun h=>by cases h
structure En where
 P:Program
 N:Fr
 B:Nat->Prop
 w0:World
 S0:SH
 r:Option Nat
def En.base(E:En):Nat:=E.w0.heap.size

def Ux(P:Program)(o:Oper)(a:Act)(tV:Act->World->Prop):Result Next->Prop
 | .ok (.value v) w' =>tV (a.put o.dst v) w'
 | .ok .skip w' =>tV (a.put o.dst undef) w'
 | .ok (.enter f args) w' =>Calls P f args w' fun e w'' => ∃v,e= .returned v/\tV (a.put o.dst v) w''
 | .ok (.round l f tmps assign body) w' =>RoundIn (fw none) 0 P l f tmps assign body w' fun e w'' => ∃v,e= .returned v/\tV (a.put o.dst v) w''
 |_=>False
def Ij(P:Program)(o:Oper)(a:Act)(w:World)(tV:Act->World->Prop):Prop:=(∀c,o.op≠ .defer c)/\Ux P o a tV ((execOp a.eval o).run P w)
variable{l:Option Nat}
def J7{r:Option Nat}{n:Nat}{P:Program}{l:Nat}{tmps:Array Value}{assign body:Code}{R:Ending->World->Prop}(h:RoundIn (fw none) 0 P l f tmps assign body w R):RoundIn (fw r) n P l f tmps assign body w R:=
 ⟨trivial,fun c cs _=>h.2 c cs (fun _ hd=>by cases hd)⟩
variable{tV K' :Act->World->Prop}
def Pm{P:Program}(hK: ∀a w,tV a w->K' a w){r:Result Next}(h:Ux P o a tV r):Ux P o a K' r:=by
 cases r with
 |ok n w=>
  cases n<;>simp only [Ux]at h ⊢
  case value=>exact hK _ _ h
  case skip=>exact hK _ _ h
  case enter f args=>exact h.mono fun e w' ⟨v,he,hk⟩=>⟨v,he,hK _ _ hk⟩
  case round l f tmps assign body=>exact h.mono fun e w' ⟨v,he,hk⟩=>⟨v,he,hK _ _ hk⟩
 |halt x w=>simp only [Ux]at h
def nY{P:Program}(hK: ∀a w,tV a w->K' a w)(h:Ij P o a w tV):Ij P o a w K' :=⟨h.1,Pm hK h.2⟩
variable{ah:Exit->Act->World->Prop}{β:Type}{res:β->Ty}
def kS{P:Program}{r:Option Nat}(hK: ∀a w,tV a w->K' a w)(h:Ij P o a w tV):o.wpIn (fw r) 0 P a w K' ah:=by
 obtain⟨hd,h⟩:=h
 refine⟨fun _ _=>trivial,?_⟩
 rw [Oper.semAt_eq _ _ _ hd]
 generalize (execOp a.eval o).run P w=res at h
 cases res with
 |ok n w=>
  cases n<;>simp only [Ux]at h<;>simp only [Oper.uponIn]
  case value=>exact hK _ _ h
  case skip=>exact hK _ _ h
  case enter f args=>exact⟨IJ,ve.2 (h.mono fun e w' ⟨v,he,hk⟩=>by subst he;exact hK _ _ hk)⟩
  case round l f tmps assign body=>exact⟨IJ,(J7 h).mono fun e w' ⟨v,he,hk⟩=>by subst he;exact hK _ _ hk⟩
 |halt x w=>simp only [Ux]at h

def cm(E:En)(O:List OE)(G:lv)(o:Oper)(t:Ty):Prop:=
 ∀a w S,lJ w S->d9 E.base E.B w S O->bO E.N S a G->
  Ij E.P o a w (fun a' w' => ∃v S',a' =a.put o.dst v/\jK sJ w S w' S' /\lJ w' S' /\t.p S' v)
structure St(E:En)(O:List OE)(G:lv)(a:Act)(w:World)(S:SH):Prop where
 ext:jK E.B E.w0 E.S0 w S
 sat:lJ w S
 own:d9 E.base E.B w S O
 facts:bO E.N S a G
def RG(E:En)(ops:Array Oper)(ah:Exit->Act->World->Prop)(l:List Oper)(O:List OE)(G:lv):Prop:= ∀a w S,St E O G a w S->wpListIn (fw E.r) 0 E.P ops ah l a w
def CG(E:En)(ah:Exit->Act->World->Prop)(c:Code)(O:List OE)(G:lv):Prop:= ∀a w S,St E O G a w S->c.wpIn (fw E.r) 0 E.P ah a w
def AT(E:En)(ah:Exit->Act->World->Prop)(e:Exit)(O:List OE)(G:lv):Prop:= ∀a w S,St E O G a w S->ah e a w

variable{after:Array Edge}{fn:Func}{ops:Array Oper}{pos:String}{ts:List Ty}{y:Operand}
section
variable{E:En}{G' :lv}{l:List Oper}
def St.step(h:St E O G a w S)(k:jK sJ w S w' S')(hs:lJ w' S')(hd:Nat.blt aL E.N.n=true)(hv:t.p S' v):
  St E O ((aL,t)::G) (a.put (some aL) v) w' S' :=
 ⟨h.ext.step0 k,hs,h.own.ext0 k,(h.facts.mono k.keep).put hd hv⟩
def St.sub(h:St E O G a w S)(k:M5 G' G):St E O G' a w S:=⟨h.ext,h.sat,h.own,h.facts.sub (EQ k)⟩
def RG.of(V:o.guard=none)(h: ∀a w S,St E O G a w S->Ij E.P o a w (fun a' w' =>wpListIn (fw E.r) 0 E.P ops ah l a' w')):RG E ops ah (o::l) O G:=fun a w S st=>
 wpListIn_plain V fun _ hK=>kS hK (h a w S st)

def tn{op:Op}{ty:TypeId}(h:cm E O G ⟨some aL,op,ty,pos,after,none⟩ t)(hd:Nat.blt aL E.N.n=true)(k:RG E ops ah l O ((aL,t)::G)):
  RG E ops ah (⟨some aL,op,ty,pos,after,none⟩::l) O G:= .of rfl fun a w S st=>
 nY (fun a' w' ⟨_,_,ha,he,hs,hv⟩=>by subst ha;exact k _ _ _ (st.step he hs hd hv)) (h a w S st.sat st.own st.facts)
def aU(h:AT E ah .normal O G):RG E ops ah [] O G:=fun a w S st=>h a w S st
def av{id:Nat}{l:List Oper}(h:RG E l.toArray ah l O G):CG E ah (.region id l.toArray false) O G:=fun a w S st=>wpIn_region_lit (h a w S st)
def aS{x y:Code}(h:CG E (Exit.then (y.wpIn (fw E.r) 0 E.P ah) ah) x O G):CG E ah (.seq x y) O G:=fun a w S st=>wpIn_seq (h a w S st)
def aG{y:Code}(h:CG E ah y O G):AT E (Exit.then (y.wpIn (fw E.r) 0 E.P ah) ah) .normal O G:=h
def bG(h:AT E ah .normal O G):CG E ah .skip O G:=fun a w S st=>wpIn_skip (h a w S st)
def dq{id:Nat}(h:AT E ah (.exit id) O G):CG E ah (.exit id) O G:=fun a w S st=>wpIn_exit (h a w S st)
def qD(h:AT E ah .ret O G):CG E ah .ret O G:=fun a w S st=>wpIn_ret (h a w S st)
def bU{e:Exit}(h:AT E ah e O G')(k:M5 G' G):AT E ah e O G:=fun a w S st=>h a w S (st.sub k)
def pY{c:Operand}{x y:Code}(W:aI E.N G c (tD rB b))(X:b=true->CG E ah x O G)(hy:b=false->CG E ah y O G):CG E ah (.cond c x y) O G:=fun a w S st=>by
 have hv:a.eval c= .bool b:=iS.1 (W S a st.facts)
 refine wpIn_cond hv ?_
 cases b with
 |true=>exact X rfl a w S st
 |false=>exact hy rfl a w S st
def aC{id:Nat}(h:CG E (Exit.inBlock id ah) c O G):CG E ah (.block id c) O G:=fun a w S st=>wpIn_block (h a w S st)
def yo(r:Option Nat)(P:Program)(c:Code)(ah:Exit->Act->World->Prop)(a:Act)(w:World):Prop:=
 ∀(b:Frame) (k:List Item) (cs:List Frame),b.roundOf=r-> ∃e a' w',ah e a' w' /\ArrivesIn (Machine.fenced P (fw r)) P (lone (b.atR a (.code c:: .inLoop c::k)) cs w) b k cs e a' w'
def Mh{r:Option Nat}{n:Nat}:(fw r).room n:=fun _ hd=>by cases hd
def FU{r:Option Nat}{P:Program}{ah:Exit->Act->World->Prop}(h:yo r P c ah a w):(Code.loop c).wpIn (fw r) 0 P ah a w:=fun b k cs hro W hr=>
 let⟨e,a',w',hq,harr⟩:=h b k cs hro
 ⟨e,a',w',hq,.of_steps (.one (fenced_calm W hr rfl) stepR_loop) harr⟩
def Ei{r:Option Nat}{P:Program}{ah:Exit->Act->World->Prop}(h:c.wpIn (fw r) 0 P (Exit.then (yo r P c ah) ah) a w):yo r P c ah a w:=by
 intro b k cs hro
 obtain⟨e,a₁,w₁,hq,harr⟩:=h b (.inLoop c::k) cs hro trivial Mh
 cases e with
 |normal=>
  obtain⟨e₂,a₂,w₂,hq₂,harr₂⟩:=hq b k cs hro
  exact⟨e₂,a₂,w₂,hq₂,.of_steps (StepsIn.trans harr (.one (fenced_calm (n:=0) (F:=fw r) trivial Mh rfl) stepR_inLoop)) harr₂⟩
 |exit id=>exact⟨_,a₁,w₁,hq,.pass (x:= .inLoop c) rfl (fun _ _=> .inl (by simp)) harr⟩
 |goto l=>exact⟨_,a₁,w₁,hq,.pass (x:= .inLoop c) rfl (fun _ _=> .inl (by simp)) harr⟩
 |ret=>exact⟨_,a₁,w₁,hq,.pass (x:= .inLoop c) rfl (fun _ _=> .inl (by simp)) harr⟩
 |panic ch=>exact⟨_,a₁,w₁,hq,.pass (x:= .inLoop c) rfl (fun _ _=> .inl (by simp)) harr⟩
 |outgrown=>exact⟨_,a₁,w₁,hq,.pass (x:= .inLoop c) rfl (fun _ _=> .inl (by simp)) harr⟩
def LG(E:En)(ah:Exit->Act->World->Prop)(c:Code)(O:List OE)(G:lv):Prop:= ∀a w S,St E O G a w S->yo E.r E.P c ah a w
def b7(h:LG E ah c O G):CG E ah (.loop c) O G:=fun a w S st=>FU (h a w S st)
def ea(h:CG E (Exit.then (yo E.r E.P c ah) ah) c O G):LG E ah c O G:=fun a w S st=>Ei (h a w S st)
def aZ(h:LG E ah c O G')(k:M5 G' G):LG E ah c O G:=fun a w S st=>h a w S (st.sub k)
def bm(h:LG E ah c O G):AT E (Exit.then (yo E.r E.P c ah) ah) .normal O G:=h
def aq{id:Nat}(h:AT E ah (.exit id) O G):AT E (Exit.then tV ah) (.exit id) O G:=h
def aF(h:AT E ah .ret O G):AT E (Exit.then tV ah) .ret O G:=h
def Oq{id:Nat}(h:AT E ah .ret O G):AT E (Exit.inBlock id ah) .ret O G:=h
def aE{id:Nat}(h:AT E ah .normal O G):AT E (Exit.inBlock id ah) .normal O G:=h
def bR{id:Nat}(h:AT E ah .normal O G):AT E (Exit.inBlock id ah) (.exit id) O G:=fun a w S st=>by
 simp only [Exit.inBlock,jl];exact h a w S st
def bM{id id' :Nat}(hne:Nat.beq id' id=false)(h:AT E ah (.exit id') O G):AT E (Exit.inBlock id ah) (.exit id') O G:=fun a w S st=>by
 have:id' ≠id:=fun e=>by subst e;simp at hne
 simp only [Exit.inBlock,this,kQ];exact h a w S st

def vG(S:SH):List Ty->List Value->Prop
 |[],[]=>True
 |t::ts,v::vs=>t.p S v/\vG S ts vs
 |_,_=>False
def vG.mono(h:SH.le S S'): ∀{ts:List Ty} {vs:List Value},vG S ts vs->vG S' ts vs
 |[],[],_=>trivial
 |t::_,_::_,⟨Y,H⟩=>⟨t.mono h Y,vG.mono h H⟩
def vG.length: ∀{ts:List Ty} {vs:List Value},vG S ts vs->vs.length=ts.length
 |[],[],_=>rfl
 |_::_,_::_,⟨_,H⟩=>by simp [vG.length H]
def dV(P:Program)(f:FuncId)(ts:List Ty)(t:Ty):Prop:=
 ∀w S vs,lJ w S->vG S ts vs->Calls P f vs.toArray w fun e w' => ∃v S',e= .returned v/\jK sJ w S w' S' /\lJ w' S' /\t.p S' v
def I2(E:En)(t:Ty):Ending->World->Prop:=fun e w' => ∃v S',e= .returned v/\jK E.B E.w0 E.S0 w' S' /\lJ w' S' /\t.p S' v
def xL(k:Nat):List Ty->lv
 |[]=>[]
 |t::ts=>(k,t)::xL (k+1) ts
def CY: ∀(ts:List Ty) (k j:Nat) (t:Ty),cn (xL k ts) j=some t-> ∃i,j=k+i/\ts[i]? =some t
 |[],_,_,_,h=>by simp [xL,cn]at h
 |u::ts,k,j,t,h=>by
  unfold xL cn at h
  by_cases W:Nat.beq k j=true
  ·rw [W]at h
   exact⟨0,by rw [oq W];rfl,by simpa using h⟩
  ·rw [Ab]at W
   rw [W]at h
   obtain⟨i,Y,H⟩:=CY ts (k+1) j t h
   exact⟨i+1,by omega,by simpa using H⟩
def vG.at_: ∀{ts:List Ty} {vs:List Value} (_:vG S ts vs) (i:Nat) (t:Ty),ts[i]? =some t-> ∃v,vs[i]? =some v/\t.p S v
 |_::_,v::_,⟨Y,_⟩,0,t,h=>⟨v,rfl,by simp at h;rw [<-h];exact Y⟩
 |_::ts,_::vs,⟨_,H⟩,i+1,t,h=>by simpa using vG.at_ H i t (by simpa using h)
def yC{vs:List Value}(h:vG S ts vs)(n:Nat)(hn:ts.length<=n):
  bO ⟨n,[]⟩ S {tmps:=vs.toArray++Array.replicate (n-vs.toArray.size) undef,defers:=[]} (xL 0 ts):=by
 have hl:=h.length
 refine⟨by simp;omega,rfl,fun j t hj=>?_⟩
 obtain⟨i,e,hi⟩:=CY ts 0 j t hj
 have e' :j=i:=by omega
 subst e'
 obtain⟨v,hv,D⟩:=h.at_ j t hi
 have hlt:j<vs.length:=(q8.1 hv).1
 have:(vs.toArray++Array.replicate (n-vs.toArray.size) undef).getD j undef=v:=by
  rw [FP,Array.getElem?_append_left (by simpa using hlt)]
  simp [hv]
 rw [this];exact D
def GW{P:Program}(hf:P.funcs[f]? =some fn)(W:fn.body=some c)(hn:ts.length<=fn.ntmps)(h: ∀w0 S0,CG ⟨P,⟨fn.ntmps,[]⟩,sJ,w0,S0,none⟩ (bodyPost P fn (I2 ⟨P,⟨fn.ntmps,[]⟩,sJ,w0,S0,none⟩ t)) c [] (xL 0 ts)):dV P f ts t:=by
 intro w S vs hs hv
 exact ve.1 (callsIn_of_wp (F:=fw none) (n:=0) hf W trivial (h w S _ w S ⟨iP _ _ _,hs,trivial,yC hv _ hn⟩))
def re(P:Program)(fn:Func)(k:Nat)(h:fn.results= #[.tmp k])(tmps:Array Value)(w:World):(results fn tmps).run P w= .ok (tmps.getD k undef) w:=by
 simp [results,h]
def aW{P:Program}{N:Nat}{B:Nat->Prop}{w0:World}{S0:SH}(hr:fn.results= #[.tmp k])(hk:cn G k=some t):
  AT ⟨P,⟨N,[]⟩,B,w0,S0,none⟩ (bodyPost P fn (I2 ⟨P,⟨N,[]⟩,B,w0,S0,none⟩ t)) .ret O G:=fun _ _ S st=>
 ⟨st.facts.defers,_,re P fn k hr _ _,_,S,rfl,st.ext,st.sat,st.facts.at_ k t hk⟩
def tT(ts:List Ty):Ty where
 p:=fun S v=> ∃vs,v= .tuple vs.toArray/\vG S ts vs
 mono:=fun h k=>by obtain⟨vs,e,k⟩:=k;exact⟨vs,e,vG.mono h k⟩
def BB(P:Program)(fn:Func)(j k:Nat)(h:fn.results= #[.tmp j,.tmp k])(tmps:Array Value)(w:World):(results fn tmps).run P w= .ok (.tuple #[tmps.getD j undef,tmps.getD k undef]) w:=by
 simp [results,h]
def eZ{P:Program}{N:Nat}{B:Nat->Prop}{w0:World}{S0:SH}{u:Ty}(hr:fn.results= #[.tmp j,.tmp k])(hj:cn G j=some t)(hk:cn G k=some u):
  AT ⟨P,⟨N,[]⟩,B,w0,S0,none⟩ (bodyPost P fn (I2 ⟨P,⟨N,[]⟩,B,w0,S0,none⟩ (tT [t,u]))) .ret O G:=fun _ _ S st=>
 ⟨st.facts.defers,_,BB P fn j k hr _ _,_,S,rfl,st.ext,st.sat,[_,_],rfl,st.facts.at_ j t hj,st.facts.at_ k u hk,trivial⟩
def y6(P:Program)(fn:Func)(i j k:Nat)(h:fn.results= #[.tmp i,.tmp j,.tmp k])(tmps:Array Value)(w:World):(results fn tmps).run P w= .ok (.tuple #[tmps.getD i undef,tmps.getD j undef,tmps.getD k undef]) w:=by
 simp [results,h]
def vl{P:Program}{N:Nat}{B:Nat->Prop}{w0:World}{S0:SH}{h3 u:Ty}(hr:fn.results= #[.tmp i,.tmp j,.tmp k])(hi:cn G i=some h3)(hj:cn G j=some t)(hk:cn G k=some u):
  AT ⟨P,⟨N,[]⟩,B,w0,S0,none⟩ (bodyPost P fn (I2 ⟨P,⟨N,[]⟩,B,w0,S0,none⟩ (tT [h3,t,u]))) .ret O G:=fun _ _ S st=>
 ⟨st.facts.defers,_,y6 P fn i j k hr _ _,_,S,rfl,st.ext,st.sat,[_,_,_],rfl,st.facts.at_ i h3 hi,st.facts.at_ j t hj,st.facts.at_ k u hk,trivial⟩
def t6(P:Program)(fn:Func)(h:fn.results= #[])(tmps:Array Value)(w:World):(results fn tmps).run P w= .ok (.tuple #[]) w:=by
 simp [results,h]
end

variable{dst:Option Tmp}{g:Option (Nat×Bool)}{k' :IntKind}{xt yt:TypeId}
section
variable{E:En}{ty:TypeId}
def cm.of_run(h: ∀a w S,lJ w S->d9 E.base E.B w S O->bO E.N S a G->
  ∃v w' S',(execOp a.eval o).run E.P w= .ok (.value v) w' /\jK sJ w S w' S' /\lJ w' S' /\t.p S' v)(hd: ∀c,o.op≠ .defer c:=by intro c h;cases h):cm E O G o t:=fun a w S hs ho hf=>by
 obtain⟨v,w',S',hr,he,hs',hv⟩:=h a w S hs ho hf
 refine⟨hd,?_⟩
 rw [hr]
 exact⟨v,S',rfl,he,hs',hv⟩
def cm.of_pure(h: ∀a w S,lJ w S->d9 E.base E.B w S O->bO E.N S a G-> ∃v,(execOp a.eval o).run E.P w= .ok (.value v) w/\t.p S v)(hd: ∀c,o.op≠ .defer c:=by intro c h;cases h):cm E O G o t:=
 .of_run (fun a w S hs ho hf=>let⟨v,hr,hv⟩:=h a w S hs ho hf;⟨v,w,S,hr,iP _ _ _,hs,hv⟩) hd

def ca(X:aI E.N G x t):cm E O G ⟨dst,.move x,ty,pos,after,g⟩ t:=
 .of_pure fun a _ S _ _ hf=>⟨a.eval x,rfl,X S a hf⟩
def b9(X:aI E.N G x t):cm E O G ⟨dst,.assign x,ty,pos,after,g⟩ t:=
 .of_pure fun a _ S _ _ hf=>⟨a.eval x,rfl,X S a hf⟩
def w6{c:Operand}(hc:aI E.N G c (tD rB b))(X:b=true->aI E.N G x t)(hy:b=false->aI E.N G y t):cm E O G ⟨dst,.pick c x y,ty,pos,after,g⟩ t:=
 .of_pure fun a _ S _ _ hf=>by
  have Y:a.eval c= .bool b:=iS.1 (hc S a hf)
  refine⟨if b then a.eval x else a.eval y,by simp [execOp,Y,asBool],?_⟩
  cases b with
  |true=>exact X rfl S a hf
  |false=>exact hy rfl S a hf

section
variable{k:IntKind}{m n:Int}
def Bg{P:Program}{op:BinOp}{xt:TypeId}{x y:Operand}{k:IntKind}{m n:Int}:(eqGuard op xt x y (.int k m) (.int k' n)).run P w= .ok () w:=by
 unfold eqGuard
 cases op<;>rfl
def rg{op:BinOp}(X:aI E.N G x (tD (rI k) m))(hy:aI E.N G y (tD (rI k) n))(hv: ∀P w,(binOp op xt (.int k m) (.int k n)).run P w= .ok v w)(D: ∀S,t.p S v):
  cm E O G ⟨dst,.binOp op xt x y yt,ty,pos,after,g⟩ t:=
 .of_pure fun a w S _ _ hf=>by
  have Y:a.eval x= .int k m:=dE.1 (X S a hf)
  have H:a.eval y= .int k n:=dE.1 (hy S a hf)
  refine⟨v,?_,D S⟩
  simp [execOp,Y,H,Bg,hv]
def fq(X:aI E.N G x (tD (rI k) m))(hy:aI E.N G y (tD (rI k) n)):cm E O G ⟨dst,.binOp .add xt x y yt,ty,pos,after,g⟩ (tD (rI k) (k.wrap (m+n))):=
 rg X hy (fun _ _=>by simp [binOp,Op.intArith]) (fun _=>dE.2 rfl)
def ic(X:aI E.N G x (tD (rI k) m))(hy:aI E.N G y (tD (rI k) n)):cm E O G ⟨dst,.binOp .sub xt x y yt,ty,pos,after,g⟩ (tD (rI k) (k.wrap (m-n))):=
 rg X hy (fun _ _=>by simp [binOp,Op.intArith]) (fun _=>dE.2 rfl)
def CV(X:aI E.N G x (tD (rI k) m))(hy:aI E.N G y (tD (rI k) n)):cm E O G ⟨dst,.binOp .mul xt x y yt,ty,pos,after,g⟩ (tD (rI k) (k.wrap (m*n))):=
 rg X hy (fun _ _=>by simp [binOp,Op.intArith]) (fun _=>dE.2 rfl)
def Pp(X:aI E.N G x (tD (rI k) m))(hy:aI E.N G y (tD (rI k) n))(h0:n≠0):cm E O G ⟨dst,.binOp .quo xt x y yt,ty,pos,after,g⟩ (tD (rI k) (k.wrap (m.tdiv n))):=
 rg X hy (fun _ _=>by simp [binOp,Op.intDiv,h0]) (fun _=>dE.2 rfl)
def iC(X:aI E.N G x (tD (rI k) m))(hy:aI E.N G y (tD (rI k) n)):cm E O G ⟨dst,.binOp .lss xt x y yt,ty,pos,after,g⟩ (tD rB (decide (m<n))):=
 rg X hy (fun _ _=>by simp [binOp,Op.intCmp]) (fun _=>iS.2 rfl)
def gy(X:aI E.N G x (tD (rI k) m))(hy:aI E.N G y (tD (rI k) n)):cm E O G ⟨dst,.binOp .leq xt x y yt,ty,pos,after,g⟩ (tD rB (decide (m<=n))):=
 rg X hy (fun _ _=>by simp [binOp,Op.intCmp]) (fun _=>iS.2 rfl)
def jW(X:aI E.N G x (tD (rI k) m))(hy:aI E.N G y (tD (rI k) n)):cm E O G ⟨dst,.binOp .gtr xt x y yt,ty,pos,after,g⟩ (tD rB (decide (n<m))):=
 rg X hy (fun _ _=>by simp [binOp,Op.intCmp]) (fun _=>iS.2 rfl)
def ie(X:aI E.N G x (tD (rI k) m))(hy:aI E.N G y (tD (rI k) n)):cm E O G ⟨dst,.binOp .geq xt x y yt,ty,pos,after,g⟩ (tD rB (decide (n<=m))):=
 rg X hy (fun _ _=>by simp [binOp,Op.intCmp]) (fun _=>iS.2 rfl)
def dW(X:aI E.N G x (tD (rI k) m))(hy:aI E.N G y (tD (rI k) n)):cm E O G ⟨dst,.binOp .eql xt x y yt,ty,pos,after,g⟩ (tD rB (m==n)):=
 rg X hy (fun _ _=>by simp [binOp,Op.intCmp]) (fun _=>iS.2 rfl)
def jU(X:aI E.N G x (tD (rI k) m))(hy:aI E.N G y (tD (rI k) n)):cm E O G ⟨dst,.binOp .neq xt x y yt,ty,pos,after,g⟩ (tD rB (m !=n)):=
 rg X hy (fun _ _=>by simp [binOp,Op.intCmp]) (fun _=>iS.2 rfl)
def pV(op:BinOp)(k:IntKind)(x y:Int):Int:=
 k.wrap (match op with
  | .and=>(BitVec.ofInt k.bits x&&&BitVec.ofInt k.bits y).toNat
  | .or=>(BitVec.ofInt k.bits x|||BitVec.ofInt k.bits y).toNat
  | .xor=>(BitVec.ofInt k.bits x^^^BitVec.ofInt k.bits y).toNat
  |_=>(BitVec.ofInt k.bits x&&& ~~~BitVec.ofInt k.bits y).toNat:Nat)
def UC(X:aI E.N G x (tD (rI k) m))(hy:aI E.N G y (tD (rI k) n)):cm E O G ⟨dst,.binOp .and xt x y yt,ty,pos,after,g⟩ (tD (rI k) (pV .and k m n)):=
 rg X hy (fun _ _=>by simp [binOp,Op.intBits];rfl) (fun _=>dE.2 rfl)
def Gm(X:aI E.N G x (tD (rI k) m))(hy:aI E.N G y (tD (rI k) n)):cm E O G ⟨dst,.binOp .xor xt x y yt,ty,pos,after,g⟩ (tD (rI k) (pV .xor k m n)):=
 rg X hy (fun _ _=>by simp [binOp,Op.intBits];rfl) (fun _=>dE.2 rfl)
def Io{op:BinOp}(X:aI E.N G x (tD (rI k) m))(hy:aI E.N G y (tD (rI k') n))(hv: ∀P w,(binOp op xt (.int k m) (.int k' n)).run P w= .ok v w)(D: ∀S,t.p S v):
  cm E O G ⟨dst,.binOp op xt x y yt,ty,pos,after,g⟩ t:=
 .of_pure fun a w S _ _ hf=>by
  have Y:a.eval x= .int k m:=dE.1 (X S a hf)
  have H:a.eval y= .int k' n:=dE.1 (hy S a hf)
  refine⟨v,?_,D S⟩
  simp [execOp,Y,H,Bg,hv]
def UA(X:aI E.N G x (tD (rI k) m))(hy:aI E.N G y (tD (rI k') n))(h0:0<=n):cm E O G ⟨dst,.binOp .shl xt x y yt,ty,pos,after,g⟩ (tD (rI k) (k.wrap (m*2^(min n.toNat k.bits)))):=
 Io X hy (fun _ _=>by simp [binOp,Op.shift,Int.not_lt.2 h0]) (fun _=>dE.2 rfl)
def Ar(X:aI E.N G x (tD (rI k) m))(hy:aI E.N G y (tD (rI k') n))(h0:0<=n):cm E O G ⟨dst,.binOp .shr xt x y yt,ty,pos,after,g⟩ (tD (rI k) (m.fdiv (2^(min n.toNat k.bits)))):=
 Io X hy (fun _ _=>by simp [binOp,Op.shift,Int.not_lt.2 h0]) (fun _=>dE.2 rfl)
def UB(X:aI E.N G x (tD (rI k) m)):cm E O G ⟨dst,.unOp .xor xt x,ty,pos,after,g⟩ (tD (rI k) (pV .xor k (if k.signed then -1 else k.max) m)):=
 .of_pure fun a w S _ _ hf=>by
  have Y:a.eval x= .int k m:=dE.1 (X S a hf)
  exact⟨_,by simp [execOp,Y,Op.unary,Op.intBits];rfl,dE.2 rfl⟩
def gg(X:aI E.N G x (tD rB b)):cm E O G ⟨dst,.unOp .not xt x,ty,pos,after,g⟩ (tD rB (!b)):=
 .of_pure fun a w S _ _ hf=>by
  have Y:a.eval x= .bool b:=iS.1 (X S a hf)
  exact⟨.bool (!b),by simp [execOp,Y,Op.unary],iS.2 rfl⟩
def eW{st dt:TypeId}{aL:TypeDesc}(hs:E.P.underlying st=some aL)(hd:E.P.underlying dt=some (.int k'))(X:aI E.N G x (tD (rI k) m)):
  cm E O G ⟨dst,.convert st dt x,ty,pos,after,g⟩ (tD (rI k') (k'.wrap m)):=
 .of_pure fun a w S _ _ hf=>by
  have Y:a.eval x= .int k m:=dE.1 (X S a hf)
  refine⟨.int k' (k'.wrap m),?_,dE.2 rfl⟩
  simp only [execOp,Y,convert,sH,iQ hs,iQ hd,tS]
  cases aL<;>simp [Conv.intToInt]
end

def An{P:Program}{t:TypeId}(D:P.underlying t=some .bool)(aL:Nat)(b c:Bool)(w:World):(Op.equalIn (aL+1) t (.bool b) (.bool c)).run P w= .ok (b==c) w:=by
 simp [Op.equalIn,iQ D]
def y7{P:Program}{t:TypeId}{x y:Value}(W: ∀aL,(Op.equalIn (aL+1) t x y).run P w= .ok b w):(Op.equal t x y).run P w= .ok b w:=W 9999
section
def Gq{c:Bool}(D:E.P.underlying xt=some .bool)(X:aI E.N G x (tD rB b))(hy:aI E.N G y (tD rB c)):cm E O G ⟨dst,.binOp .eql xt x y yt,ty,pos,after,g⟩ (tD rB (b==c)):=
 .of_pure fun a w S _ _ hf=>by
  have Y:a.eval x= .bool b:=iS.1 (X S a hf)
  have H:a.eval y= .bool c:=iS.1 (hy S a hf)
  exact⟨.bool (b==c),by simp [execOp,Y,H,eqGuard,binOp,y7 (fun aL=>An D aL b c w)],iS.2 rfl⟩
def Uz{op:BinOp}{u:QQ}(X:aI E.N G x (tD rS h3))(hy:aI E.N G y (tD rS u))(hv: ∀P w,(Op.stringOp op ⟨h3.toArray⟩ ⟨u.toArray⟩).run P w= .ok (.bool b) w)(V: ∀P w,(eqGuard op xt x y (.string ⟨h3.toArray⟩) (.string ⟨u.toArray⟩)).run P w= .ok () w)(W: ∀P w,(binOp op xt (.string ⟨h3.toArray⟩) (.string ⟨u.toArray⟩)).run P w=(Op.stringOp op ⟨h3.toArray⟩ ⟨u.toArray⟩).run P w):
  cm E O G ⟨dst,.binOp op xt x y yt,ty,pos,after,g⟩ (tD rB b):=
 .of_pure fun a w S _ _ hf=>by
  have Y:a.eval x= .string ⟨h3.toArray⟩:=Ah.1 (X S a hf)
  have H:a.eval y= .string ⟨u.toArray⟩:=Ah.1 (hy S a hf)
  refine⟨.bool b,?_,iS.2 rfl⟩
  simp [execOp,Y,H,V,W,hv]
def RM{u:QQ}(X:aI E.N G x (tD rS h3))(hy:aI E.N G y (tD rS u)):cm E O G ⟨dst,.binOp .eql xt x y yt,ty,pos,after,g⟩ (tD rB (h3==u)):=
 Uz X hy (fun _ _=>by simp [Op.stringOp]) (fun _ _=>rfl) (fun _ _=>rfl)
end
end

def PK:TypeDesc->Bool
 | .struct _| .array _ _=>true
 |_=>false
structure TI(P:Program)(T:TypeId)(sz bytes:Nat)(agg:Bool)(z:List Value):Prop where
 info:(P.info? T).map (fun i=>(i.zero.map (·.cells.toList),i.size,i.bytes))=some (some z,sz,bytes)
 ag:(P.underlying T).map PK=some agg
variable{T:TypeId}{bytes:Nat}{z:List Value}
section
variable{P:Program}{sz:Nat}{agg:Bool}
def TI.get(h:TI P T sz bytes agg z): ∃i zv,P.info? T=some i/\i.size=sz/\i.bytes=bytes/\i.zero=some zv/\zv.cells=z.toArray:=by
 have:=h.info
 cases hi:P.info? T with
 |none=>rw [hi]at this;simp at this
 |some i=>
  rw [hi]at this
  simp only [oD,Option.some.injEq,Prod.mk.injEq,D1]at this
  obtain⟨⟨zv,Y,H⟩,s,h4⟩:=this
  exact⟨i,zv,rfl,s,h4,Y,by rw [<-H]⟩
def TI.sizeOf(h:TI P T sz bytes agg z)(w:World):(Go.sizeOf T).run P w= .ok sz w:=by
 obtain⟨i,zv,Y,H,_⟩:=h.get
 simp [Go.sizeOf,typeInfo,Y,H]
def TI.isAgg(h:TI P T sz bytes agg z)(w:World):(Go.isAgg T).run P w= .ok agg w:=by
 have:=h.ag
 cases hi:P.underlying T with
 |none=>rw [hi]at this;simp at this
 |some aL=>
  rw [hi]at this
  simp only [oD,Option.some.injEq]at this
  simp only [Go.isAgg,sH,iQ hi,tS]
  rw [<-this]
  cases aL<;>simp [PK]
def TI.zero(h:TI P T sz bytes agg z)(w:World): ∃zv,(zeroValue T).run P w= .ok zv w/\zv.cells=z.toArray:=by
 obtain⟨i,zv,Y,_,_,h4,h5⟩:=h.get
 exact⟨zv,by simp [zeroValue,typeInfo,Y,h4],h5⟩
end

def iN(b off i:Nat):(⟨b,off,none⟩:Addr).add i=⟨b,off+i,none⟩:=by
 unfold Addr.add
 split
 ·simp_all
 ·rfl
def vd{b:Nat}{c:Array Value}(h:w.heap[b]? =some (.cells c T fr))(i:Nat):w.cell? ⟨b,i,none⟩=c[i]? :=by
 simp [World.cell?,h]
def t7{P:Program}{b n:Nat}{c:Array Value}(h:w.heap[b]? =some (.cells c T fr))(hcs:(c.toList.drop off).take n=cs)(hl:cs.length=n):
  (loadCells ⟨b,off,none⟩ n).run P w= .ok cs.toArray w:=by
 rw [<-hl]
 refine run_loadCells_list w ⟨b,off,none⟩ cs fun j v hv=>?_
 rw [iN,vd h]
 have hj:j<cs.length:=(q8.1 hv).1
 rw [<-hcs,xp (by omega),uB]at hv
 simpa using hv
variable{U:TypeId}{rest:List Oper}
def kh{P:Program}{b:Nat}{c:Array Value}{sz:Nat}{agg:Bool}(ti:TI P U sz bytes agg z)(h:w.heap[b]? =some (.cells c T fr)){r:Rp α}(hsz:r.sz=sz)(hag:r.agg=agg){x:α}(X:r.rc S ((c.toList.drop off).take r.sz) x):
  (loadVar U ⟨b,off,none⟩).run P w= .ok (r.val ((c.toList.drop off).take r.sz)) w:=by
 have hl:=r.len X
 subst hsz
 subst hag
 simp only [loadVar,sH,ti.isAgg,tS]
 cases ha:r.agg with
 |true=>simp [ti.sizeOf,t7 h rfl hl,Rp.val,ha]
 |false=>
  have Y:=r.sc ha
  have hcell:w.cell? ⟨b,off,none⟩=some (((c.toList.drop off).take r.sz).headD undef):=by
   rw [vd h]
   rw [Y]at hl ⊢
   cases hd:c.toList.drop off with
   |nil=>rw [hd]at hl;simp at hl
   |cons v rest=>
    have:(c.toList.drop off)[0]? =some v:=by rw [hd];rfl
    rw [uB]at this
    simpa using this
  simp [hcell,Rp.val,ha]

variable{ats:Array TypeId}{q:Rp β}
section
variable{E:En}{ty:TypeId}
def jV{r:Rp α}{x:α}{p:Operand}{sz:Nat}{agg:Bool}(ti:TI E.P U sz bytes agg z)(hsz:r.sz=sz)(hag:r.agg=agg)(hp:aI E.N G p (c8 r x)):
  cm E O G ⟨dst,.load U p,ty,pos,after,g⟩ (tD r x):=
 .of_pure fun a w S hs _ hf=>by
  obtain⟨b,off,c,T,fr,Y,H,s⟩:=hp S a hf
  obtain⟨c',h4,h5⟩:=hs.part H (r.len s)
  rw [<-h5]at s
  refine⟨r.val ((c'.toList.drop off).take r.sz),?_,_,rfl,s⟩
  simp [execOp,Y,Instr.loadAt,Instr.sureAddr,kh ti h4 hsz hag s]

def SZ(h3:QQ):(ByteArray.mk h3.toArray).size=h3.length:=by simp [ByteArray.size]
def lS{r:Rp α}{t:TypeId}(D:E.P.underlying t=some (.slice e))(X:aI E.N G x (tD (gE r) xs)):
  cm E O G ⟨dst,.call ⟨.builtin .len,#[x],#[t]⟩,ty,pos,after,g⟩ (tD (rI .i64) (xs.length:Int)):=
 .of_pure fun a w S _ _ hf=>by
  obtain⟨ad,cap,Y,_⟩:=jw.1 (X S a hf)
  refine⟨.int .i64 xs.length,?_,dE.2 rfl⟩
  simp [execOp,resolve,invoke,builtin,Builtin.len_,iQ D,Y,goInt]
def LY{t:TypeId}(D:E.P.underlying t=some .string)(X:aI E.N G x (tD rS h3)):
  cm E O G ⟨dst,.call ⟨.builtin .len,#[x],#[t]⟩,ty,pos,after,g⟩ (tD (rI .i64) (h3.length:Int)):=
 .of_pure fun a w S _ _ hf=>by
  have Y:a.eval x= .string ⟨h3.toArray⟩:=Ah.1 (X S a hf)
  refine⟨.int .i64 h3.length,?_,dE.2 rfl⟩
  simp [execOp,resolve,invoke,builtin,Builtin.len_,iQ D,Y,goInt,SZ]

def gG{α:Type}(xs:List α)(i:Int):Option α:=if 0<=i then xs[i.toNat]? else none
def eK(xs:List α)(i:Nat):gG xs (i:Int)=xs[i]? :=by simp [gG]
def M9{r:Rp α}{a:Option Addr}(h:ES r S a xs){x:α}(X:xs[i]? =some x):
  ∃b off c T fr,a=some ⟨b,off,none⟩/\S b=some (.cells c T fr)/\r.rc S ((c.toList.drop (off+i*r.sz)).take r.sz) x:=by
 rcases h with rfl|⟨b,off,c,T,fr,e1,e2,e3⟩
 ·simp at X
 ·refine⟨b,off,c,T,fr,e1,e2,?_⟩
  have h:=zc e3 X
  have hi:i<xs.length:=(q8.1 X).1
  rw [xz,yN,rP]at h
  have:min r.sz (xs.length*r.sz-i*r.sz)=r.sz:=by
   rw [<-Nat.sub_mul]
   have:1*r.sz<=(xs.length-i)*r.sz:=yR _ (by omega)
   omega
  rw [this]at h
  exact h
def uN{r:Rp α}{y:α}{ix:Operand}{t:TypeId}{k:IntKind}{i:Int}{sz:Nat}{agg:Bool}(D:E.P.underlying t=some (.slice e))(ti:TI E.P e sz bytes agg z)(hsz:r.sz=sz)(X:aI E.N G x (tD (gE r) xs))(hi:aI E.N G ix (tD (rI k) i))(hy:gG xs i=some y):
  cm E O G ⟨dst,.indexAddr t x ix,ty,pos,after,g⟩ (c8 r y):=
 .of_pure fun a w S _ _ hf=>by
  obtain⟨ad,cap,Y,_,_,H⟩:=jw.1 (X S a hf)
  have s:a.eval ix= .int k i:=dE.1 (hi S a hf)
  have h0:0<=i:=by unfold gG at hy;split at hy;assumption;cases hy
  have hy' :xs[i.toNat]? =some y:=by unfold gG at hy;rw [bo h0]at hy;exact hy
  have hlt:i.toNat<xs.length:=(q8.1 hy').1
  obtain⟨b,off,c,T,fr,e1,e2,e3⟩:=M9 H hy'
  subst e1
  refine⟨.pointer (some ⟨b,off+i.toNat*r.sz,none⟩),?_,b,_,c,T,fr,rfl,e2,e3⟩
  have hc:0<=i/\i<(xs.length:Int):=⟨h0,by omega⟩
  simp [execOp,Y,s,Instr.indexAt,asIntOf,iQ D,hc,ti.sizeOf,iN,hsz]

def kP{α β:Type}(r:Rp α)(off:Nat)(q:Rp β)(get:α->β):Prop:= ∀S cs x,r.rc S cs x->q.rc S ((cs.drop off).take q.sz) (get x)
def bF(P:Program)(T:TypeId)(i:Nat):Option (Nat×Nat):=
 match P.underlying T with
 |some (.struct fs)=>(fs[i]?).bind fun f=>(P.info? f.type).map fun q=>(f.offset,q.size)
 |_=>none
def E0{P:Program}{sz:Nat}(h:bF P T i=some (off,sz)): ∃fs f,P.underlying T=some (.struct fs)/\fs[i]? =some f/\f.offset=off/\ ∀w,(sizeOf f.type).run P w= .ok sz w:=by
 unfold bF at h
 split at h
 ·rename_i fs hu
  cases hf:fs[i]? with
  |none=>rw [hf]at h;simp at h
  |some f=>
   rw [hf]at h
   cases hq:P.info? f.type with
   |none=>simp [hq]at h
   |some q=>
    simp [hq]at h
    exact⟨fs,f,hu,hf,h.1,fun w=>by simp [sizeOf,typeInfo,hq,h.2]⟩
 ·cases h
def ig{r:Rp α}{get:α->β}{x:α}{sz:Nat}{p:Operand}(hf:bF E.P T i=some (off,sz))(h0:Nat.beq sz 0=false)(hq:kP r off q get)(hoff:Nat.ble (off+q.sz) r.sz=true)(hp:aI E.N G p (c8 r x)):cm E O G ⟨dst,.fieldAddr T p i,ty,pos,after,g⟩ (c8 q (get x)):=
 .of_pure fun a w S _ _ hF=>by
  obtain⟨b,o,c,U,fr,Y,H,s⟩:=hp S a hF
  obtain⟨fs,f,e1,e2,e3,e4⟩:=E0 hf
  have h0' :sz≠0:=fun e=>by subst e;simp at h0
  have hoff' :off+q.sz<=r.sz:=qR hoff
  refine⟨.pointer (some ⟨b,o+off,none⟩),?_,b,_,c,U,fr,rfl,H,?_⟩
  ·simp [execOp,Y,Instr.fieldAt,iQ e1,e2,Instr.sureAddr,fieldPlace,e4,h0',e3,iN]
  ·have:=hq S _ x s
   rw [xz,yN,rP,vJ (by omega)]at this
   exact this
def ak(P:Program)(f:FuncId):Bool:=
 match P.funcs[f]? with
 |some fn=> !(fn.name== "runtime.NumGoroutine")&&fn.body.isSome
 |none=>false
def hZ{P:Program}(h:ak P f=true)(args:Array Value)(w:World):(callFunc f args).run P w= .ok (.enter f args) w:=by
 unfold ak at h
 cases hf:P.funcs[f]? with
 |none=>rw [hf]at h;cases h
 |some fn=>
  rw [hf]at h
  simp only [nP,DW]at h
  have Y:fn.name≠ "runtime.NumGoroutine" :=by simpa using h.1
  have H:fn.body≠none:=fun e=>by rw [e]at h;simp at h
  simp [callFunc,hf,Y,H]
def j4(N:Fr)(G:lv):List Operand->List Ty->Prop
 |[],[]=>True
 |x::xs,t::ts=>aI N G x t/\j4 N G xs ts
 |_,_=>False
def j4.tys{N:Fr}(hF:bO N S a G): ∀{xs:List Operand} {ts:List Ty},j4 N G xs ts->vG S ts (xs.map a.eval)
 |[],[],_=>trivial
 |_::_,_::_,⟨Y,H⟩=>⟨Y S a hF,j4.tys hF H⟩
def dx{xs:List Operand}(hc:ak E.P f=true)(hs:dV E.P f ts t)(X:j4 E.N G xs ts):
  cm E O G ⟨dst,.call ⟨.value (.func f),xs.toArray,ats⟩,ty,pos,after,g⟩ t:=fun a w S hS _ hF=>by
 have hr:(execOp a.eval ⟨dst,.call ⟨.value (.func f),xs.toArray,ats⟩,ty,pos,after,g⟩).run E.P w= .ok (.enter f (xs.map a.eval).toArray) w:=by
  simp [execOp,resolve,Act.eval,Deferred.ofValue,invoke,hZ hc]
 refine⟨fun c h=>(by cases h),?_⟩
 rw [hr]
 exact(hs w S _ hS (X.tys hF)).mono fun e w' ⟨v,S',he,Y,H,s⟩=>⟨v,he,v,S',rfl,Y,H,s⟩
end

def mQ{o:Obj}(h:k<w.heap.size):(w.alloc o).heap[k]? =w.heap[k]? :=RowKit.Below.heap_alloc w o k h
def SH.set(S:SH)(b:Nat)(o:Obj):SH:=fun k=>if k=b then some o else S k
def mn(S:SH)(b:Nat)(o:Obj):S.set b o b=some o:=bo rfl
def qA(S:SH){b:Nat}(o:Obj)(h:k≠b):S.set b o k=S k:=aV h
def uq{b:Nat}{o:Obj}(h: ∀q,S b=some q->Hf q o):SH.le S (S.set b o):=fun k q hq=>by
 by_cases hk:k=b
 ·subst hk;exact⟨o,mn _ _ _,h q hq⟩
 ·exact⟨q,by rw [qA _ _ hk];exact hq,sj q⟩
def lJ.set(h:lJ w S){b:Nat}{o:Obj}(Y:w.heap[b]? =some o')(H:Hf o o')(s: ∀q,S b=some q->Hf q o):lJ w (S.set b o):=by
 refine⟨fun k q hq=>?_,fun p hp=>?_,fun w' hw' =>h.tb w' fun k q hq=>?_⟩
 ·by_cases hk:k=b
  ·subst hk
   rw [mn]at hq
   cases hq
   exact⟨o',Y,H⟩
  ·rw [qA _ _ hk]at hq;exact h k q hq
 ·obtain⟨c,T,fr,g1,g2⟩:=h.gl p hp
  by_cases hk:p.1=b
  ·subst hk
   obtain⟨aL,hd⟩:=s _ g1
   refine⟨_,T,fr,by rw [mn,hd],?_⟩
   rw [List.toList_toArray,Bw ?_]
   ·exact g2
   ·have:=congrArg List.length g2
    rw [B0]at this
    omega
  ·exact⟨c,T,fr,by rw [qA _ _ hk];exact g1,g2⟩
 ·by_cases hk:k=b
  ·subst hk
   obtain⟨o1,g1,g2⟩:=hw' k o (mn _ _ _)
   exact⟨o1,g1,E7 (s q hq) g2⟩
  ·exact hw' k q (by rw [qA _ _ hk];exact hq)
def ji(o:Obj)(hs:lJ w S):jK sJ w S (w.alloc o) S/\lJ (w.alloc o) S/\S w.heap.size=none:=by
 refine⟨⟨rfl,rfl,rfl,dY _,by simp,fun k hk _=>mQ hk,SH.le_refl _,fun _ _ _=>rfl⟩,hs.same fun b q W=>mQ (hs.lt W),?_⟩
 cases h:S w.heap.size with
 |none=>rfl
 |some q=>have:=hs.lt h;omega
def tq(o:Obj)(hs:lJ w S):jK sJ w S (w.alloc o) (S.set w.heap.size o)/\lJ (w.alloc o) (S.set w.heap.size o):=by
 obtain⟨Y,H,s⟩:=ji o hs
 refine⟨⟨rfl,rfl,rfl,dY _,by simp,fun k hk _=>mQ hk,uq fun q hq=>(by rw [s]at hq;cases hq),fun k hk _=>qA _ _ (by omega)⟩,H.set (vN w o) (sj o) fun q hq=>by rw [s]at hq;cases hq⟩
def wO(hs:lJ w S):jK sJ w S w.drew S/\lJ w.drew S:=⟨⟨rfl,rfl,rfl,Nat.le_succ _,dY _,fun _ _ _=>rfl,SH.le_refl _,fun _ _ _=>rfl⟩,hs.same fun _ _ _=>rfl⟩

def au(l:Option Nat)(cap n:Nat):Value:=
 match l with
 |none=> .slice none 0 0
 |some b=> .slice (some ⟨b,0,none⟩) n cap
def xT(w:World)(T:TypeId)(sz:Nat)(l:Option Nat)(cap n:Nat)(cells:List Value):Prop:=
 match l with
 |none=>n=0/\cells=[]
 |some b=> ∃cur,w.heap[b]? =some (.cells cur T (0,0))/\n<=cap/\cap<=maxLen/\cur.size=cap*sz/\cur.toList.take (n*sz)=cells
def yJ{α:Type}(m:Bool)(r:Rp α)(T:TypeId)(l:Option Nat)(cap:Nat)(xs:List α)(w:World)(S:SH):Prop:=
 ∃cells,xT w T r.sz l cap xs.length cells/\qa r S cells xs/\ ∀b,l=some b->S b=if m then some (.cells cells.toArray T (0,0))else none
def xT.lt{sz b n:Nat}(h:xT w T sz (some b) cap n cells):b<w.heap.size:=by
 obtain⟨cur,Y,_⟩:=h
 exact(FO.1 Y).1
def xT.ext{sz n:Nat}(h:xT w T sz l cap n cells)(k: ∀b,l=some b->w'.heap[b]? =w.heap[b]?):xT w' T sz l cap n cells:=by
 cases l with
 |none=>exact h
 |some b=>
  obtain⟨cur,Y,H⟩:=h
  exact⟨cur,by rw [k b rfl];exact Y,H⟩
def ly{α:Type}(m:Bool)(r:Rp α)(T:TypeId)(l:Option Nat)(cap:Nat)(xs:List α):OE where
 fp:=fun k=>l=some k
 p:=yJ m r T l cap xs
 here:=by
  intro w S h k hk
  subst hk
  obtain⟨cells,Y,_⟩:=h
  exact Y.lt
 kept:=by
  intro C w w' S S' h k hC
  obtain⟨cells,Y,H,s⟩:=h
  refine⟨cells,Y.ext fun b W=>?_,qW k.keep H,fun b W=>?_⟩
  ·subst W;exact k.heap b Y.lt (hC b rfl)
  ·subst W;rw [k.old b Y.lt (hC b rfl)];exact s b rfl
abbrev de{α:Type}(r:Rp α)(T:TypeId)(l:Option Nat)(cap:Nat)(xs:List α):OE:=ly false r T l cap xs
abbrev tip{α:Type}(r:Rp α)(T:TypeId)(l:Option Nat)(cap:Nat)(xs:List α):OE:=ly true r T l cap xs
def jh{α:Type}(xs ys:List α):Option (List α):=if xs.length+ys.length<=68719476736 then some (xs++ys)else none
variable{zs:List α}
def QO(h:jh xs ys=some zs):zs=xs++ys/\xs.length+ys.length<=68719476736:=by
 unfold jh at h
 split at h
 ·exact⟨by simpa using h.symm,by assumption⟩
 ·cases h
variable{news:List Value}
def xr{P:Program}{t tx ty:TypeId}{i:TypeInfo}(D:P.underlying t=some (.slice e))(hi:P.info? e=some i){g sLen sCap:Nat}{cur:Array Value}(V:w.heap[g]? =some (.cells cur e (0,0))){x:Value}{n:Nat}(hs:Src P i.size tx x n news w)(hroom:sLen+n<=sCap)(hfit:sLen*i.size+news.length<=cur.size):
  (Builtin.append_ #[t,tx] ty #[.slice (some ⟨g,0,none⟩) sLen sCap,x]).run P w=
   .ok (.slice (some ⟨g,0,none⟩) (sLen+n) sCap) (w.setRow g (cur.toList.take (sLen*i.size)++news++cur.toList.drop (sLen*i.size+news.length)).toArray):=by
 have hst:=run_storeCells_at P g (sLen*i.size) e news 0 cur w V (by simpa using hfit) hs.one
 simp only [AU]at hst
 rcases hs.kind with⟨e',hk⟩|hk<;>simp [Builtin.append_,iQ D,iQ hk,sizeOf,typeInfo,hi,hs.len,hroom,hs.cells,Addr.add_lit,hst]
structure TW(l:Option Nat)(w w' :World):Prop where
 os:w'.os=w.os
 tape:w'.tape=w.tape
 output:w'.output=w.output
 drawn:w.drawn<=w'.drawn
 size:w.heap.size<=w'.heap.size
 heap: ∀k,k<w.heap.size->l≠some k->w'.heap[k]? =w.heap[k]?
variable{t' :TypeId}
def CJ{P:Program}{t ty:TypeId}{sz:Nat}{agg:Bool}{n m:Nat}{x:Value}(ti:TI P T sz bytes agg z)(hz:Nat.beq z.length sz=true)(h0:Nat.blt 0 sz=true)(h128:Nat.ble bytes 2048=true)(D:P.underlying t=some (.slice T))(h:xT w T sz l cap n cells)(hs:Src P sz t' x m news w)(hlen:n+m<=68719476736):
  ∃l' cap' w',(Builtin.append_ #[t,t'] ty #[au l cap n,x]).run P w= .ok (au l' cap' (n+m)) w' /\xT w' T sz l' cap' (n+m) (cells++news)/\TW l w w' /\(∀b,l' =some b->l=some b\/w.heap.size<=b)/\(∀b,l=some b->l' ≠some b->w'.heap[b]? =w.heap[b]?):=by
 obtain⟨i,zv,hi,Y,H,s,h4⟩:=ti.get
 have h128' :=qR h128
 have h0' :0<sz:=by simpa [tt] using h0
 have hz2:z.length=sz:=oq hz
 subst Y
 have hnl:=hs.newsLen
 have hbytes:(n+m)*i.bytes<=140737488355328:=xy (Nat.mul_le_mul hlen (by omega:i.bytes<=2048)) (by omega)
 by_cases hm:m=0
 ·subst hm
  have hn0:news=[]:=tA (by simpa using hnl)
  subst hn0
  refine⟨l,cap,w,?_,by simpa using h,⟨rfl,rfl,rfl,dY _,dY _,fun _ _ _=>rfl⟩,fun b W=> .inl W,fun b _ _=>rfl⟩
  cases l with
  |none=>
   obtain⟨rfl,_⟩:=h
   exact run_append_nothing w t t' ty T i D hi none 0 0 (dY _) _ hs
  |some b=>
   obtain⟨cur,_,hle,_⟩:=h
   exact run_append_nothing w t t' ty T i D hi (some ⟨b,0,none⟩) n cap hle _ hs
 have US: ∀old,old<n+m->Builtin.nextslicecap (n+m) old*i.bytes<=281474976710656:=fun old ho=>growslice_fits ho hbytes
 -- a new row
 have fresh: ∀(base:Option Addr) (olds:List Value),au l cap n= .slice base n cap->olds=cells->cap<n+m->(Builtin.firstCells i.size n (.slice base n cap)).run P w.drew= .ok olds.toArray w.drew->cells.length=n*i.size->
   ∃l' cap' w',(Builtin.append_ #[t,t'] ty #[au l cap n,x]).run P w= .ok (au l' cap' (n+m)) w' /\xT w' T i.size l' cap' (n+m) (cells++news)/\TW l w w' /\(∀b,l' =some b->l=some b\/w.heap.size<=b)/\(∀b,l=some b->l' ≠some b->w'.heap[b]? =w.heap[b]?):=by
  intro base olds hv he V hf hcl
  subst he
  have hr:=run_append_grow_src (P:=P) w t t' ty T i zv D hi s base n cap olds hf x m news hs V (by omega) (US cap V)
  have hge:=grownCap_ge w (n+m) cap T
  rw [<-hv]at hr
  refine⟨some w.heap.size,grownCap w (n+m) cap T,_,hr,⟨_,vN w.drew _,hge,grownCap_le_maxLen _ _ _ _ (by simp only [maxLen];omega),?_,?_⟩,⟨rfl,rfl,rfl,Nat.le_succ _,by simp,fun k hk _=>?_⟩,fun b W=> .inr (yU (px W)),fun b W _=>?_⟩
  ·have:(Builtin.zeroCells zv.cells (grownCap w (n+m) cap T-(n+m))).size=(grownCap w (n+m) cap T-(n+m))*i.size:=by
    rw [size_zeroCells,h4];simp [hz2]
   simp only [Array.size_append,EB,kJ,hcl,hnl,this]
   rw [<-vH,<-vH]
   congr 1;omega
  ·have hl2:(olds++news).length=(n+m)*i.size:=by rw [kJ,hcl,hnl,vH]
   rw [Array.toList_append,Bw (by simp only [List.toList_toArray];omega)]
   simp only [List.toList_toArray]
   exact tz (by omega)
  ·exact mQ (w:=w.drew) hk
  ·cases l with
   |none=>cases W
   |some b0=>
    have hb' :b0=b:=px W
    subst hb'
    exact mQ (w:=w.drew) (xT.lt h)
 cases l with
 |none=>
  obtain⟨rfl,rfl⟩:=h
  have:=run_append_grow_src (P:=P) w t t' ty T i zv D hi s none 0 0 [] (run_firstCells_none w.drew i.size 0 0 0) x m news hs (by omega) (by omega) (US 0 (by omega))
  have hge:=grownCap_ge w (0+m) 0 T
  refine⟨some w.heap.size,grownCap w (0+m) 0 T,_,this,⟨_,vN w.drew _,hge,grownCap_le_maxLen _ _ _ _ (by simp only [maxLen];omega),?_,?_⟩,⟨rfl,rfl,rfl,Nat.le_succ _,by simp,fun k hk _=>?_⟩,fun b W=> .inr (yU (px W)),fun b W=>(by cases W)⟩
  ·have:(Builtin.zeroCells zv.cells (grownCap w (0+m) 0 T-(0+m))).size=(grownCap w (0+m) 0 T-(0+m))*i.size:=by
    rw [size_zeroCells,h4];simp [hz2]
   simp only [Array.size_append,EB,mo,hnl,this]
   rw [<-vH]
   congr 1;omega
  ·rw [Array.toList_append,Bw (by simp [hnl])]
   simp only [mo,vw]
   exact tz (by omega)
  ·exact mQ (w:=w.drew) hk
 |some b=>
  obtain⟨cur,W,hle,hmax,hcs,hct⟩:=h
  have hcl:cells.length=n*i.size:=by
   rw [<-hct,B0,AY,hcs]
   exact vJ (yR _ hle)
  by_cases hroom:n+m<=cap
  ·have hfit:n*i.size+news.length<=cur.size:=by rw [hnl,hcs,<-vH];exact yR _ hroom
   have hr:=xr (t:=t) (tx:=t') (ty:=ty) D hi W hs hroom hfit
   refine⟨some b,cap,_,hr,⟨_,setRow_heap w b cur _ T _ W,hroom,hmax,?_,?_⟩,⟨rfl,rfl,rfl,dY _,by simp [World.setRow],fun k hk hkb=>setRow_other w b k _ (fun e=>hkb (by rw [e]))⟩,fun b' hb' => .inl hb',fun b' hb' hne=>absurd hb' hne⟩
   ·simp only [EB,kJ,B0,Bt,AY]
    omega
   ·rw [hct,vH,<-hnl,<-hcl,show cells.length+news.length=(cells++news).length from by simp]
    exact List.take_left
  ·refine fresh (some ⟨b,0,none⟩) cells rfl rfl (by omega) (run_firstCells_some w.drew i.size n ⟨b,0,none⟩ n cap cells hcl fun j v hv=>?_) hcl
   have hj:j<cells.length:=(q8.1 hv).1
   have hcell:w.cell? ⟨b,j,none⟩=cur[j]? :=vd W j
   rw [iN]
   show w.cell? ⟨b,0+j,none⟩=_
   rw [vw,hcell]
   rw [<-hct,xp (by omega)]at hv
   simpa using hv
def sS{P:Program}{r:Rp α}{e' :TypeId}(D:P.underlying t' =some (.slice e'))(hs:lJ w S)(hv:(tD (gE r) ys).p S v): ∃news,Src P r.sz t' v ys.length news w/\qa r S news ys:=by
 obtain⟨ad,c2,rfl,hcap,hmax,hsl⟩:=jw.1 hv
 rcases hsl with rfl|⟨b,off,c,U,fr,e1,e2,e3⟩
 ·refine⟨[],?_,rfl⟩
  cases ad with
  |none=>exact .ofNil w D c2
  |some a=>exact .ofSlice w D a 0 c2 [] (by simp) (fun j u hu=>by simp at hu) (fun u hu=>by cases hu)
 ·subst e1
  obtain⟨c',h4,h5⟩:=hs.part e2 (jT e3)
  refine⟨_,.ofSlice w D ⟨b,off,none⟩ ys.length c2 _ (jT e3) (fun j u hu=>?_) (wX e3),e3⟩
  rw [iN,vd h4]
  rw [<-h5]at hu
  have hj:j<ys.length*r.sz:=by
   have:=(q8.1 hu).1
   simp at this;omega
  rw [xp hj,uB]at hu
  simpa using hu
def lI(h3:QQ):List Int:=h3.map fun b=>(b.toNat:Int)
def E1{S:SH}: ∀h3:QQ,qa (rI .u8) S (h3.map fun b=>Value.int .u8 b.toNat) (lI h3)
 |[]=>rfl
 |b::h3=>⟨[.int .u8 b.toNat],_,rfl,rfl,E1 h3⟩
def JR{P:Program}(D:P.underlying t' =some .string)(hv:(tD rS h3).p S v): ∃news,Src P (rI .u8).sz t' v (lI h3).length news w/\qa (rI .u8) S news (lI h3):=by
 have e:=Ah.1 hv
 subst e
 refine⟨_,?_,E1 h3⟩
 have:=Src.ofString (P:=P) w D ⟨h3.toArray⟩
 have e1:(ByteArray.mk h3.toArray).size=(lI h3).length:=by simp [ByteArray.size,lI]
 rw [e1]at this
 simpa [byteCells,rI] using this
variable{mm:Bool}
def vU{P:Program}{r:Rp α}{t ty:TypeId}{sz:Nat}{agg:Bool}{base:Nat}{B:Nat->Prop}(ti:TI P T sz bytes agg z)(hsz:r.sz=sz)(hz:Nat.beq z.length sz=true)(h0:Nat.blt 0 sz=true)(h128:Nat.ble bytes 2048=true)(D:P.underlying t=some (.slice T))(hs:lJ w S)(h:(ly mm r T l cap xs).holds base B w S)(W:base<=w.heap.size)(hsrc:Src P r.sz t' v ys.length news w)(hrc:qa r S news ys)(hz' :jh xs ys=some zs):
  ∃l' cap' w' S',(Builtin.append_ #[t,t'] ty #[au l cap xs.length,v]).run P w= .ok (au l' cap' zs.length) w' /\jK (fun k=>l=some k) w S w' S' /\lJ w' S' /\(ly mm r T l' cap' zs).holds base B w' S' /\(∀b,l' =some b->l=some b\/w.heap.size<=b):=by
 subst hsz
 obtain⟨rfl,hlen⟩:=QO hz'
 obtain⟨⟨cells,Y,H,s⟩,hbase⟩:=h
 obtain⟨l',cap',w',hr,hraw,V,hnew,hold⟩:=CJ (ty:=ty) ti hz h0 h128 D Y hsrc hlen
 have hrc' :qa r S (cells++news) (xs++ys):=qk H hrc
 -- what stood settled stands
 have hsat0: ∀k o,S k=some o-> ∃o',w'.heap[k]? =some o' /\Hf o o' :=fun k o hk=>by
  have hlt:=hs.lt hk
  by_cases hkl:l=some k
  ·obtain⟨o',e1,e2⟩:=hs k o hk
   by_cases hkl' :l' =some k
   ·subst hkl'
    subst hkl
    have h3' :=s k rfl
    cases mm with
    |false=>rw [h3']at hk;cases hk
    |true=>
     rw [h3']at hk
     cases hk
     obtain⟨cur',g1,g2,g3,g4,g5⟩:=hraw
     refine⟨_,g1,?_⟩;refine⟨news++cur'.toList.drop ((xs.length+ys.length)*r.sz),?_⟩
     congr 1
     apply Array.ext'
     rw [<-oB,<-g5,rQ]
   ·rw [hold k hkl hkl'];exact hs k o hk
  ·rw [V.heap k hlt hkl];exact hs k o hk
 have hsat:lJ w' S:=⟨hsat0,hs.gl,hs.tb⟩
 have hSn: ∀b,l' =some b->l≠some b->S b=none:=fun b hb' hne=>by
  cases hq:S b with
  |none=>rfl
  |some q=>
   have:=hs.lt hq
   rcases hnew b hb' with h|h
   ·exact absurd h hne
   ·omega
 have hbase' : ∀k,l' =some k->base<=k\/B k:=fun k hk=>by
  rcases hnew k hk with h|h
  ·exact hbase k h
  ·exact .inl (by omega)
 have hz2:(xs++ys).length=xs.length+ys.length:=kJ
 cases mm with
 |false=>
  refine⟨l',cap',w',S,by rw [hz2];exact hr,⟨V.os,V.tape,V.output,V.drawn,V.size,fun k hk hkb=>V.heap k hk hkb,SH.le_refl _,fun _ _ _=>rfl⟩,hsat,⟨⟨cells++news,by rw [hz2];exact hraw,hrc',fun b hb' =>?_⟩,hbase'⟩,hnew⟩
  by_cases hlb:l=some b
  ·exact s b hlb
  ·exact hSn b hb' hlb
 |true=>
  cases l' with
  |none=>
   refine⟨none,cap',w',S,by rw [hz2];exact hr,⟨V.os,V.tape,V.output,V.drawn,V.size,fun k hk hkb=>V.heap k hk hkb,SH.le_refl _,fun _ _ _=>rfl⟩,hsat,⟨⟨cells++news,by rw [hz2];exact hraw,hrc',fun b hb' =>(by cases hb')⟩,hbase'⟩,hnew⟩
  |some g=>
   have hq3: ∀q,S g=some q->Hf q (.cells (cells++news).toArray T (0,0)):=fun q hq=>by
    by_cases hlb:l=some g
    ·have h4:S g=some (.cells cells.toArray T (0,0)):=s g hlb
     rw [h4]at hq
     cases hq
     exact⟨news,by simp⟩
    ·rw [hSn g rfl hlb]at hq;cases hq
   have hle:SH.le S (S.set g (.cells (cells++news).toArray T (0,0))):=uq hq3
   obtain⟨cur',g1,g2,g3,g4,g5⟩:=hraw
   refine⟨some g,cap',w',S.set g (.cells (cells++news).toArray T (0,0)),by rw [hz2];exact hr,⟨V.os,V.tape,V.output,V.drawn,V.size,fun k hk hkb=>V.heap k hk hkb,hle,fun k hk hkb=>qA _ _ ?_⟩,hsat.set g1 ?_ hq3,⟨⟨cells++news,by rw [hz2];exact⟨cur',g1,g2,g3,g4,g5⟩,qW hle hrc',fun b hb' =>?_⟩,hbase'⟩,hnew⟩
   ·rintro rfl
    rcases hnew k rfl with h|h
    ·exact hkb h
    ·omega
   ·refine⟨cur'.toList.drop ((xs.length+ys.length)*r.sz),?_⟩
    congr 1
    apply Array.ext'
    rw [<-g5,rQ]
   ·have hb2:g=b:=px hb'
    subst hb2
    exact mn _ _ _

def Lg{e f:OE}(h:e.apart f):f.apart e:=fun b W he=>h b he W
def d9.swap{base:Nat}{B:Nat->Prop}{e f:OE}(h:d9 base B w S (e::f::O)):d9 base B w S (f::e::O):=by
 obtain⟨Y,H,s,h4,h5⟩:=h
 refine⟨s,?_,Y,?_,h5⟩
 ·intro g V
  rcases j8.1 V with rfl|V
  ·exact Lg (H _ (nQ ..))
  ·exact h4 g V
 ·intro g V
  exact H g (o4 _ V)
def uu{base:Nat}{B:Nat->Prop}{e:OE}{O' :List OE}(h:d9 base B w S (e::O))(k:d9 base B w S O->d9 base B w S O')(hm: ∀f∈O',f∈O):d9 base B w S (e::O'):=
 ⟨h.1,fun f hf=>h.2.1 f (hm f hf),k h.2.2⟩
def qC{base:Nat}{B:Nat->Prop}{a b c:OE}(h:d9 base B w S (a::b::c::O)):d9 base B w S (c::a::b::O):=
 (uu h d9.swap (fun f hf=>by simp only [j8]at hf ⊢;rcases hf with h|h|h<;>simp [h])).swap
def sE{base:Nat}{B:Nat->Prop}{a b c aL:OE}(h:d9 base B w S (a::b::c::aL::O)):d9 base B w S (aL::a::b::c::O):=
 (uu h qC (fun f hf=>by simp only [j8]at hf ⊢;rcases hf with h|h|h|h<;>simp [h])).swap
def vi{base:Nat}{B:Nat->Prop}{a b c aL e:OE}(h:d9 base B w S (a::b::c::aL::e::O)):d9 base B w S (e::a::b::c::aL::O):=
 (uu h sE (fun f hf=>by simp only [j8]at hf ⊢;rcases hf with h|h|h|h|h<;>simp [h])).swap

section
variable{E:En}
def St.own_map{O' :List OE}(h:St E O G a w S)(k:d9 E.base E.B w S O->d9 E.base E.B w S O'):St E O' G a w S:=⟨h.ext,h.sat,k h.own,h.facts⟩
def St.base_le(h:St E O G a w S):E.base<=w.heap.size:=h.ext.size
def St.drop{e:OE}(h:St E (e::O) G a w S):St E O G a w S:=h.own_map fun h=>h.2.2
def St.fresh(mm:Bool)(r:Rp α)(T:TypeId)(h:St E O G a w S):St E (ly mm r T none 0 []::O) G a w S:=
 h.own_map fun h=>by refine⟨⟨⟨[],⟨rfl,rfl⟩,rfl,fun b W=>(by cases W)⟩,fun k hk=>?_⟩,fun f _ b W=>?_,h⟩<;>(first|cases hk|cases W)
def yf{e:OE}{b:Nat}{o:Obj}(h:St E (e::O) G a w S)(W:e.fp b)(ho:w.heap[b]? =some o')(hoo:Hf o o')(hn:S b=none):St E O G a w (S.set b o)/\SH.le S (S.set b o)/\jK (fun k=>k=b) w S w (S.set b o)/\lJ w (S.set b o):=by
 have hbase:=h.own.1.2 b W
 have hle:SH.le S (S.set b o):=uq fun q hq=>(by rw [hn]at hq;cases hq)
 have hsat:lJ w (S.set b o):=h.sat.set ho hoo fun q hq=>by rw [hn]at hq;cases hq
 have hext:jK (fun k=>k=b) w S w (S.set b o):=⟨rfl,rfl,rfl,dY _,dY _,fun _ _ _=>rfl,hle,fun k _ hk=>qA _ _ hk⟩
 refine⟨⟨h.ext.step hext fun c hc=>by subst hc;exact hbase,hsat,h.own.2.2.ext hext fun f hf c hc hm=>?_,h.facts.mono hle⟩,hle,hext,hsat⟩
 subst hm
 exact h.own.2.1 f hf c W hc
def tO{α:Type}(r:Rp α)(l:Option Nat)(cap:Nat)(xs:List α):Ty where
 p:=fun S v=>v=au l cap xs.length/\(tD (gE r) xs).p S v
 mono:=fun h ⟨Y,H⟩=>⟨Y,Ty.mono _ h H⟩
def BA{N:Fr}{G:lv}{r:Rp α}(h:aI N G x (tO r l cap xs)):aI N G x (K (au l cap xs.length)):=fun S a hf=>(h S a hf).1
def rb{N:Fr}{G:lv}{r:Rp α}(h:aI N G x (tO r l cap xs)):aI N G x (tD (gE r) xs):=fun S a hf=>(h S a hf).2
def mC{r:Rp α}{w:World}{S:SH}(h:yJ true r T l cap xs w S):(tD (gE r) xs).p S (au l cap xs.length):=by
 obtain⟨cells,Y,H,s⟩:=h
 cases l with
 |none=>
  have X:xs=[]:=tA Y.1
  subst X
  exact F3
 |some b=>
  obtain⟨cur,g1,g2,g3,g4,g5⟩:=Y
  refine jw.2 ⟨_,cap,rfl,g2,g3,.inr ⟨b,0,cells.toArray,T,(0,0),rfl,s b rfl,?_⟩⟩
  have:=jT H
  rw [z2,tz (by simp [this])]
  exact H
def St.freeze{r:Rp α}(h:St E (de r T l cap xs::O) G a w S):
  ∃S',St E (tip r T l cap xs::O) G a w S' :=by
 obtain⟨⟨cells,Y,H,s⟩,hbase⟩:=h.own.1
 cases l with
 |none=>exact⟨S,h.ext,h.sat,⟨⟨⟨cells,Y,H,fun b W=>(by cases W)⟩,hbase⟩,h.own.2⟩,h.facts⟩
 |some b=>
  obtain⟨cur,g1,g2,g3,g4,g5⟩:=Y
  have hoo:Hf (.cells cells.toArray T (0,0)) (.cells cur T (0,0)):=by
   refine⟨cur.toList.drop (xs.length*r.sz),?_⟩
   congr 1
   apply Array.ext'
   rw [<-g5,rQ]
  obtain⟨h8,hle,_,_⟩:=yf h rfl g1 hoo (s b rfl)
  refine⟨_,h8.ext,h8.sat,⟨⟨⟨cells,⟨cur,g1,g2,g3,g4,g5⟩,qW hle H,fun b' hb' =>?_⟩,hbase⟩,h.own.2.1,h8.own⟩,h8.facts⟩
  have hb2:b=b' :=px hb'
  subst hb2
  exact mn _ _ _
def St.settle{r:Rp α}(h:St E (ly mm r T l cap xs::O) G a w S):
  ∃S',St E O G a w S' /\(tD (gE r) xs).p S' (au l cap xs.length):=by
 cases mm with
 |true=>exact⟨S,h.drop,mC h.own.1.1⟩
 |false=>
  obtain⟨S',Y⟩:=h.freeze
  exact⟨S',Y.drop,mC Y.own.1.1⟩
end

section
variable{E:En}{e:Exit}
def KH{N:Fr}(h:bO N S a G)(hk:t.p S (a.tmps.getD k undef)):bO N S a ((k,t)::G):=
 ⟨h.size,h.defers,fun j u hj=>by
  unfold cn at hj
  by_cases W:Nat.beq k j=true
  ·rw [W]at hj
   have:=oq W
   subst this
   rw [<-show t=u from by simpa using hj];exact hk
  ·rw [Ab]at W
   rw [W]at hj
   exact h.at_ j u hj⟩
def St.cons(h:St E O G a w S)(hk:t.p S (a.tmps.getD k undef)):St E O ((k,t)::G) a w S:=⟨h.ext,h.sat,h.own,KH h.facts hk⟩
def St.tipAt{r:Rp α}{n:Nat}(h:St E (tip r T l cap xs::O) G a w S)(hk:cn G k=some (K (au l cap n)))(hn:n=xs.length):
  St E (tip r T l cap xs::O) ((k,tO r l cap xs)::G) a w S:=by
 subst hn
 have hv:a.tmps.getD k undef=au l cap xs.length:=h.facts.at_ k _ hk
 exact h.cons ⟨hv,by rw [hv];exact mC h.own.1.1⟩
def cP(mm:Bool)(r:Rp α)(T:TypeId)(h:RG E ops ah rest (ly mm r T none 0 []::O) G):RG E ops ah rest O G:=fun a w S st=>h a w S (st.fresh mm r T)
def zV{f:OE}(h:RG E ops ah rest O G):RG E ops ah rest (f::O) G:=fun a w S st=>h a w S st.drop
def CG.drop{f:OE}(h:CG E ah c O G):CG E ah c (f::O) G:=fun a w S st=>h a w S st.drop
def aY{f:OE}(h:AT E ah e O G):AT E ah e (f::O) G:=fun a w S st=>h a w S st.drop
def cH{x y:OE}(h:RG E ops ah rest (y::x::O) G):RG E ops ah rest (x::y::O) G:=fun a w S st=>h a w S (st.own_map d9.swap)
def af{x y:OE}(h:AT E ah e (y::x::O) G):AT E ah e (x::y::O) G:=fun a w S st=>h a w S (st.own_map d9.swap)
def cB{x y z:OE}(h:RG E ops ah rest (z::x::y::O) G):RG E ops ah rest (x::y::z::O) G:=fun a w S st=>h a w S (st.own_map qC)
def Oi{x y z:OE}(h:CG E ah c (z::x::y::O) G):CG E ah c (x::y::z::O) G:=fun a w S st=>h a w S (st.own_map qC)
def aH{x y z:OE}(h:AT E ah e (z::x::y::O) G):AT E ah e (x::y::z::O) G:=fun a w S st=>h a w S (st.own_map qC)
def kb{x y z:OE}(h:RG E ops ah rest (u::x::y::z::O) G):RG E ops ah rest (x::y::z::u::O) G:=fun a w S st=>h a w S (st.own_map sE)
def aN{x y z:OE}(h:AT E ah e (u::x::y::z::O) G):AT E ah e (x::y::z::u::O) G:=fun a w S st=>h a w S (st.own_map sE)
def kO{x y z v:OE}(h:RG E ops ah rest (v::x::y::z::u::O) G):RG E ops ah rest (x::y::z::u::v::O) G:=fun a w S st=>h a w S (st.own_map vi)
def mV{x y z v:OE}(h:AT E ah e (v::x::y::z::u::O) G):AT E ah e (x::y::z::u::v::O) G:=fun a w S st=>h a w S (st.own_map vi)
def rE{f:OE}(h:LG E ah c O G):LG E ah c (f::O) G:=fun a w S st=>h a w S st.drop
def gc{x y:OE}(h:LG E ah c (y::x::O) G):LG E ah c (x::y::O) G:=fun a w S st=>h a w S (st.own_map d9.swap)
def mf{x y z:OE}(h:LG E ah c (z::x::y::O) G):LG E ah c (x::y::z::O) G:=fun a w S st=>h a w S (st.own_map qC)
def gp{x y z:OE}(h:LG E ah c (u::x::y::z::O) G):LG E ah c (x::y::z::u::O) G:=fun a w S st=>h a w S (st.own_map sE)
def qB{r:Rp α}(h:RG E ops ah rest (tip r T l cap xs::O) G):RG E ops ah rest (de r T l cap xs::O) G:=fun a w _ st=>let⟨S',st'⟩:=st.freeze;h a w S' st'
def md{r:Rp α}{n:Nat}(k:Nat)(hk:cn G k=some (K (au l cap n)))(h:RG E ops ah rest (tip r T l cap xs::O) ((k,tO r l cap xs)::G))(hn:n=xs.length:=by rfl):RG E ops ah rest (tip r T l cap xs::O) G:=fun a w S st=>h a w S (st.tipAt hk hn)
def Oj{r:Rp α}(h:CG E ah c (tip r T l cap xs::O) G):CG E ah c (de r T l cap xs::O) G:=fun a w _ st=>let⟨S',st'⟩:=st.freeze;h a w S' st'
def DP{r:Rp α}{n:Nat}(k:Nat)(hk:cn G k=some (K (au l cap n)))(h:CG E ah c (tip r T l cap xs::O) ((k,tO r l cap xs)::G))(hn:n=xs.length:=by rfl):CG E ah c (tip r T l cap xs::O) G:=fun a w S st=>h a w S (st.tipAt hk hn)
def df{r:Rp α}(h:AT E ah e (tip r T l cap xs::O) G):AT E ah e (de r T l cap xs::O) G:=fun a w _ st=>let⟨S',st'⟩:=st.freeze;h a w S' st'
def bv{r:Rp α}{n:Nat}(k:Nat)(hk:cn G k=some (K (au l cap n)))(h:AT E ah e (tip r T l cap xs::O) ((k,tO r l cap xs)::G))(hn:n=xs.length:=by rfl):AT E ah e (tip r T l cap xs::O) G:=fun a w S st=>h a w S (st.tipAt hk hn)
def bD{r:Rp α}(hk:cn G k=some (tD (gE r) xs))(h:xs.length<=maxLen->CG E ah c O G):CG E ah c O G:=fun a w S st=>by
 obtain⟨_,_,_,Y,H,_⟩:=jw.1 (st.facts.at_ k _ hk)
 exact h (xy Y H) a w S st

section
variable{ty:TypeId}
def St.append{r:Rp α}{t ty:TypeId}{sz:Nat}{agg:Bool}(ti:TI E.P T sz bytes agg z)(hsz:r.sz=sz)(hz:Nat.beq z.length sz=true)(h0:Nat.blt 0 sz=true)(h128:Nat.ble bytes 2048=true)(D:E.P.underlying t=some (.slice T))(st:St E (ly mm r T l cap xs::O) G a w S)(hsrc:Src E.P r.sz t' v ys.length news w)(hrc:qa r S news ys)(happ:jh xs ys=some zs):
  ∃l' cap' w' S',(Builtin.append_ #[t,t'] ty #[au l cap xs.length,v]).run E.P w= .ok (au l' cap' zs.length) w' /\St E (ly mm r T l' cap' zs::O) G a w' S' :=by
 obtain⟨l',cap',w',S',hr,hext,hsat,hh,hnew⟩:=vU (ty:=ty) ti hsz hz h0 h128 D st.sat st.own.1 st.base_le hsrc hrc happ
 refine⟨l',cap',w',S',hr,st.ext.step hext fun b W=>st.own.1.2 b W,hsat,⟨hh,fun f hf b W hfb=>?_,st.own.2.2.ext hext fun f hf b W hbl=>st.own.2.1 f hf b hbl W⟩,st.facts.mono hext.keep⟩
 rcases hnew b W with h|h
 ·exact st.own.2.1 f hf b h hfb
 ·have:=f.here (d9.mem st.own.2.2 f hf).1 b hfb
  omega
def St.put{aL:Nat}(h:St E O G a w S)(hd:Nat.blt aL E.N.n=true)(hv:t.p S v):St E O ((aL,t)::G) (a.put (some aL) v) w S:=⟨h.ext,h.sat,h.own,h.facts.put hd hv⟩
def vh{r:Rp α}{t:TypeId}{sz:Nat}{agg:Bool}{n:Nat}{u:Nat->Option Nat->Ty}(ti:TI E.P T sz bytes agg z)(hsz:r.sz=sz)(hz:Nat.beq z.length sz=true)(h0:Nat.blt 0 sz=true)(h128:Nat.ble bytes 2048=true)(D:E.P.underlying t=some (.slice T))(hd:Nat.blt aL E.N.n=true)(X:aI E.N G x (K (au l cap n)))(hy: ∀a w S,St E (ly mm r T l cap xs::O) G a w S-> ∃news,Src E.P r.sz t' (a.eval y) ys.length news w/\qa r S news ys)(happ:jh xs ys=some zs)(hu: ∀l' cap' w0 S,(ly mm r T l' cap' zs).p w0 S->(u cap' l').p S (au l' cap' zs.length))(k: ∀l' cap',RG E ops ah rest (ly mm r T l' cap' zs::O) ((aL,u cap' l')::G))(hn:n=xs.length):
  RG E ops ah (⟨some aL,.call ⟨.builtin .append,#[x,y],#[t,t']⟩,ty,pos,after,none⟩::rest) (ly mm r T l cap xs::O) G:= .of rfl fun a w S st=>by
 subst hn
 have Y:a.eval x=au l cap xs.length:=X S a st.facts
 obtain⟨news,H,s⟩:=hy a w S st
 obtain⟨l',cap',w',S',hr,st'⟩:=st.append (ty:=ty) ti hsz hz h0 h128 D H s happ
 have hrun:(execOp a.eval ⟨some aL,.call ⟨.builtin .append,#[x,y],#[t,t']⟩,ty,pos,after,none⟩).run E.P w= .ok (.value (au l' cap' zs.length)) w' :=by
  simp [execOp,resolve,invoke,builtin,Y,hr]
 refine⟨fun c h=>(by cases h),?_⟩
 rw [hrun]
 exact k l' cap' _ _ S' (st'.put hd (hu l' cap' w' S' st'.own.1.1))
def c9{r:Rp α}{t:TypeId}{sz:Nat}{agg:Bool}{n:Nat}(ti:TI E.P T sz bytes agg z)(hsz:r.sz=sz)(hz:Nat.beq z.length sz=true)(h0:Nat.blt 0 sz=true)(h128:Nat.ble bytes 2048=true)(D:E.P.underlying t=some (.slice T))(ht' :t' =t)(hd:Nat.blt aL E.N.n=true)(X:aI E.N G x (K (au l cap n)))(hy:aI E.N G y (tD (gE r) ys))(happ:jh xs ys=some zs)(k: ∀l' cap',RG E ops ah rest (de r T l' cap' zs::O) ((aL,K (au l' cap' zs.length))::G))(hn:n=xs.length:=by rfl):
  RG E ops ah (⟨some aL,.call ⟨.builtin .append,#[x,y],#[t,t']⟩,ty,pos,after,none⟩::rest) (de r T l cap xs::O) G:=by
 subst ht'
 exact vh (u:=fun cap' l' =>K (au l' cap' zs.length)) ti hsz hz h0 h128 D hd X (fun a w S st=>sS D st.sat (hy S a st.facts)) happ (fun _ _ _ _ _=>rfl) k hn
def vg{r:Rp α}{t:TypeId}{sz:Nat}{agg:Bool}(ti:TI E.P T sz bytes agg z)(hsz:r.sz=sz)(hz:Nat.beq z.length sz=true)(h0:Nat.blt 0 sz=true)(h128:Nat.ble bytes 2048=true)(D:E.P.underlying t=some (.slice T))(ht' :t' =t)(hd:Nat.blt aL E.N.n=true)(X:aI E.N G x (tO r l cap xs))(hy:aI E.N G y (tD (gE r) ys))(happ:jh xs ys=some zs)(k: ∀l' cap',RG E ops ah rest (tip r T l' cap' zs::O) ((aL,tO r l' cap' zs)::G)):
  RG E ops ah (⟨some aL,.call ⟨.builtin .append,#[x,y],#[t,t']⟩,ty,pos,after,none⟩::rest) (tip r T l cap xs::O) G:=by
 subst ht'
 exact vh (u:=fun cap' l' =>tO r l' cap' zs) ti hsz hz h0 h128 D hd (BA X) (fun a w S st=>sS D st.sat (hy S a st.facts)) happ (fun _ _ _ _ h=>⟨rfl,mC h⟩) k rfl
def Lk{t:TypeId}{agg:Bool}{n:Nat}{xs zs:List Int}(ti:TI E.P T 1 bytes agg z)(hz:Nat.beq z.length 1=true)(h128:Nat.ble bytes 2048=true)(D:E.P.underlying t=some (.slice T))(ht' :E.P.underlying t' =some .string)(hd:Nat.blt aL E.N.n=true)(X:aI E.N G x (K (au l cap n)))(hy:aI E.N G y (tD rS h3))(happ:jh xs (lI h3)=some zs)(k: ∀l' cap',RG E ops ah rest (de (rI .u8) T l' cap' zs::O) ((aL,K (au l' cap' zs.length))::G))(hn:n=xs.length:=by rfl):
  RG E ops ah (⟨some aL,.call ⟨.builtin .append,#[x,y],#[t,t']⟩,ty,pos,after,none⟩::rest) (de (rI .u8) T l cap xs::O) G:=
 vh (r:=rI .u8) (u:=fun cap' l' =>K (au l' cap' zs.length)) ti rfl hz rfl h128 D hd X (fun a w S st=>JR ht' (hy S a st.facts)) happ (fun _ _ _ _ _=>rfl) k hn
end
end

def zu(off:Nat): ∀(cs:List Value) (k:Nat) (pre mid post:List Value),mid.length=cs.length->pre.length=off+k->
  (cs.zipIdx k).foldl (fun(a:Array Value) x=>a.setIfInBounds (off+x.2) x.1) (pre++mid++post).toArray=(pre++cs++post).toArray
 |[],k,pre,mid,post,hm,_=>by
  have:mid=[]:=tA hm
  subst this;simp
 |c::cs,k,pre,mid,post,hm,hp=>by
  cases mid with
  |nil=>simp at hm
  |cons m mid=>
   simp only [List.zipIdx_cons,List.foldl_cons]
   have Y:(pre++(m::mid)++post).toArray.setIfInBounds (off+k) c=((pre++[c])++mid++post).toArray:=by
    rw [<-hp]
    simp
   rw [Y,zu off cs (k+1) (pre++[c]) mid post (by simpa using hm) (by simp;omega)]
   simp
def y4(v:Value)(off:Nat)(pre mid post:List Value)(hm:mid.length=v.cells.size)(hp:pre.length=off):
  v.cells.zipIdx.foldl (fun cs (x:Value×Nat)=>cs.setIfInBounds (off+x.2) x.1) (pre++mid++post).toArray=(pre++v.cells.toList++post).toArray:=by
 have:=zu off v.cells.toList 0 pre mid post (by simpa using hm) (by simpa using hp)
 rw [<-this,<-Array.foldl_toList]
 simp [Array.toList_zipIdx]
def tZ{r:Rp α}{x:α}(h:r.rc S cs x):(r.val cs).cells=cs.toArray:=by
 unfold Rp.val
 cases ha:r.agg with
 |true=>simp [Value.cells]
 |false=>
  have hl:=r.len h
  rw [r.sc ha]at hl
  match cs,hl with
  |[c],_=>
   have:=r.one h c (by simp)
   cases c<;>simp_all [Value.cells,Value.oneCell']
def Bi:Nat->List Value->List (Nat×Value)
 |_,[]=>[]
 |k,v::vs=>(k,v)::Bi (k+1) vs
def Db{α:Type}{r:Rp α}{S:SH}: ∀(ys:List α) (vs:List Value) (k:Nat) (pre zs:List Value),vG S (ys.map (tD r)) vs->pre.length=k*r.sz->zs.length=ys.length*r.sz->
  ∃cs,qa r S cs ys/\Instr.fill (fun i=>some (i*r.sz,r.sz)) (pre++zs).toArray (Bi k vs)=some (pre++cs).toArray
 |[],[],k,pre,zs,_,_,hz=>by
  have:zs=[]:=tA (by simpa using hz)
  subst this
  exact⟨[],rfl,by simp [Bi,Instr.fill]⟩
 |y::ys,v::vs,k,pre,zs,⟨⟨c,e,hc⟩,H⟩,hp,hz=>by
  have hl:=r.len hc
  have hz' :r.sz<=zs.length:=by rw [hz,iR,vH];omega
  have e1:zs=zs.take r.sz++zs.drop r.sz:=(rQ _ _).symm
  have hcells:v.cells=c.toArray:=by rw [e];exact tZ hc
  obtain⟨cs,s,h4⟩:=Db ys vs (k+1) (pre++c) (zs.drop r.sz) H (by rw [kJ,hp,hl,vH];omega) (by rw [Bt,hz,iR,vH];omega)
  refine⟨c++cs,⟨c,cs,rfl,hc,s⟩,?_⟩
  have hs:v.cells.size=r.sz:=by rw [hcells];simpa using hl
  have hcond: ¬((v.cells.size≠r.sz)\/(k*r.sz+v.cells.size>(pre++zs).toArray.size)):=by
   simp [hs];omega
  have h5:=y4 v (k*r.sz) pre (zs.take r.sz) (zs.drop r.sz) (by simp [hs];omega) hp
  rw [oB,<-e1]at h5
  simp only [Bi,Instr.fill]
  rw [aV (by simpa using hcond)]
  rw [h5,hcells]
  simpa using h4
def xO:Nat->List Operand->List (Nat×Operand)
 |_,[]=>[]
 |k,v::vs=>(k,v)::xO (k+1) vs
def AH(ρ:Operand->Value): ∀(k:Nat) (xs:List Operand),(xO k xs).map (fun x=>(x.1,ρ x.2))=Bi k (xs.map ρ)
 |_,[]=>rfl
 |k,x::xs=>by simp [xO,Bi,AH ρ (k+1) xs]

section
variable{E:En}{ty:TypeId}
def vT{P:Program}{r:Rp α}{xs:List Operand}{ρ:Operand->Value}{t:TypeId}{n sz:Nat}{agg:Bool}(D:P.underlying t=some (.slice T))(ti:TI P T sz bytes agg z)(hsz:r.sz=sz)(hn:n=ys.length)(W:Nat.ble (n*sz) 16777216=true)(X:vG S (ys.map (tD r)) (xs.map ρ))(w:World):
  ∃cs,qa r S cs ys/\(Instr.buildSlice t n ((xO 0 xs).toArray.map fun x=>(x.1,ρ x.2))).run P w= .ok (.slice (some ⟨w.heap.size,0,none⟩) n n) (w.alloc (.cells cs.toArray T (0,0))):=by
 subst hsz
 have hb' :=qR W
 obtain⟨zv,hzr,_⟩:=ti.zero w
 obtain⟨cs,hc,hfill⟩:=Db ys (xs.map ρ) 0 [] ((Array.range (n*r.sz)).map (fun i=>(if n*r.sz=0 then #[]else zv.cells)[i%(if n*r.sz=0 then #[]else zv.cells).size]!)).toList X (by simp) (by simp [hn])
 refine⟨cs,hc,?_⟩
 have hparts:((xO 0 xs).toArray.map fun x=>(x.1,ρ x.2)).toList=Bi 0 (xs.map ρ):=by simp [AH]
 simp only [mo,Array.toArray_toList]at hfill
 have hle: ¬(n*r.sz>2^24):=by omega
 by_cases hn0:n*r.sz=0
 ·simp only [hn0,jl]at hfill
  simp only [Instr.buildSlice,sH,iQ D,tS,ti.sizeOf,Sem.run_ite,hn0,jl,Sem.run_pure,hparts,hfill]
  simp [newRow]
 ·simp only [hn0,kQ]at hfill
  simp only [Instr.buildSlice,sH,iQ D,tS,ti.sizeOf,Sem.run_ite,hle,kQ,hn0,Sem.run_pure,hzr,hparts,hfill]
  simp [newRow]
def ba{r:Rp α}{xs:List Operand}{parts:List (Nat×Operand)}{t:TypeId}{n sz:Nat}{agg:Bool}(D:E.P.underlying t=some (.slice T))(ti:TI E.P T sz bytes agg z)(hsz:r.sz=sz)(h0:Nat.blt 0 sz=true)(hp:parts=xO 0 xs)(hn:n=ys.length)(W:Nat.ble (n*sz) 16777216=true)(X:j4 E.N G xs (ys.map (tD r))):cm E O G ⟨dst,.buildSlice t n parts.toArray,ty,pos,after,g⟩ (tD (gE r) ys):=
 .of_run fun a w S hs _ hf=>by
  obtain⟨cs,hc,hr⟩:=vT D ti hsz hn W (X.tys hf) w
  subst hsz
  have hb' :=qR W
  have h0' :0<r.sz:=by simpa [tt] using h0
  have hnle:n<=n*r.sz:=Nat.le_mul_of_pos_right n h0'
  obtain⟨he,hs'⟩:=tq (w:=w) (.cells cs.toArray T (0,0)) hs
  have hcl:=jT hc
  refine⟨.slice (some ⟨w.heap.size,0,none⟩) n n,_,_,?_,he,hs',jw.2 ⟨_,n,by rw [hn],by omega,by simp only [maxLen];omega,.inr ⟨w.heap.size,0,cs.toArray,T,(0,0),rfl,by simp [SH.set],?_⟩⟩⟩
  ·subst hp
   simp only [execOp,sH,hr,tS,Sem.run_pure]
  ·have:qa r (S.set w.heap.size (.cells cs.toArray T (0,0))) cs ys:=qW he.keep hc
   simpa [<-hcl] using this
def Ps{r:Rp α}{v:α}(X:aI E.N G x (tD r v)):cm E O G ⟨dst,.box T x,ty,pos,after,g⟩ (c8 r v):=
 .of_run fun a w S hs _ hf=>by
  obtain⟨cs,hv,hc⟩:=X S a hf
  obtain⟨he,hs'⟩:=tq (w:=w) (.cells cs.toArray T (0,0)) hs
  refine⟨.pointer (some ⟨w.heap.size,0,none⟩),_,_,?_,he,hs',w.heap.size,0,cs.toArray,T,(0,0),rfl,by simp [SH.set],?_⟩
  ·simp [execOp,Instr.box,newVar,newRow,hv,tZ hc]
  ·have:=r.mono he.keep hc
   have hl:=r.len hc
   simpa [<-hl] using this
end

def nT(c:Bool)(t:Ty):Ty where
 p:=fun S v=>if c=true then t.p S v else v=undef
 mono:=fun h k=>by
  split
  ·rename_i hc;rw [bo hc]at k;exact t.mono h k
  ·rename_i hc;rw [aV hc]at k;exact k
variable{gs:Nat}{pol:Bool}
section
variable{E:En}
def bJ{N:Fr}{c:Bool}(h:cn G k=some (nT c t))(hc:c=true):aI N G (.tmp k) t:=fun _ _ hF=>by
 have H:if c=true then t.p _ (Act.eval _ (.tmp k))else _=undef:=hF.at_ k _ h
 rw [bo hc]at H;exact H
def s5(c b:Bool):Ty:=nT c (tD rB b)
def pj(h:cn G k=some (tD rB b)):aI E.N G (.tmp k) (s5 true b):=fun _ _ hF=>by
 have H:(tD rB b).p _ (Act.eval _ (.tmp k)):=hF.at_ k _ h
 simp only [s5,nT,jl]
 exact H
def Ax{c:Bool}(h:cn G k=some (nT c (tD rB b))):aI E.N G (.tmp k) (s5 c b):=fun _ _ hF=>hF.at_ k _ h
def rY{c:Bool}(V:o.guard=some (j,pol))(hj:(ops[j]?).bind (·.dst)=some gs)(hn:gs<a.tmps.size)(hv:(s5 c b).p S (a.tmps.getD gs undef)):
  Region.wanted o (yielded ops a.tmps)=(c&&(b==pol)):=by
 have hget:a.tmps[gs]? =some (a.tmps.getD gs undef):=by
  rw [FP,Array.getElem?_eq_getElem hn];rfl
 unfold Region.wanted
 rw [V]
 simp only [yielded,hj,bg,hget]
 cases c with
 |true=>
  have:a.tmps.getD gs undef= .bool b:=iS.1 (by simpa [s5,nT] using hv)
  rw [this]
  cases b<;>cases pol<;>rfl
 |false=>
  have:a.tmps.getD gs undef=undef:=by simpa [s5,nT] using hv
  rw [this]
  cases pol<;>rfl
def G7{c:Bool}{op:Op}{ty:TypeId}(hj:(ops[j]?).bind (·.dst)=some gs)(hgs:Nat.blt gs E.N.n=true)(V:aI E.N G (.tmp gs) (s5 c b))(hd:Nat.blt aL E.N.n=true)(h:(c&&(b==pol))=true->cm E O G ⟨some aL,op,ty,pos,after,some (j,pol)⟩ t)(k:RG E ops ah rest O ((aL,nT (c&&(b==pol)) t)::G)):
  RG E ops ah (⟨some aL,op,ty,pos,after,some (j,pol)⟩::rest) O G:=fun a w S st=>by
 have hgs' :gs<a.tmps.size:=by rw [st.facts.size];simpa [tt] using hgs
 have hw:=rY (o:=⟨some aL,op,ty,pos,after,some (j,pol)⟩) rfl hj hgs' (V S a st.facts)
 refine wpListIn_step fun tV hK=>?_
 rw [hw]
 by_cases hc:(c&&(b==pol))=true
 ·rw [bo hc]
  refine kS (fun a' w' ⟨v,S',ha,he,hs,hv⟩=>?_) (h hc a w S st.sat st.own st.facts)
  subst ha
  refine hK _ _ (k _ _ _ (st.step he hs hd ?_))
  simpa only [nT,hc,jl] using hv
 ·rw [aV hc]
  refine⟨fun _ _=>trivial,hK _ _ (k _ _ S (st.step (iP _ _ _) st.sat hd ?_))⟩
  show if _ then _ else _
  rw [aV hc]
end

structure Nd where
 slot:Nat
 ty:Ty
 src:Option Nat
def cj(E:En)(O:List OE)(ops:Array Oper)(need:lv)(o:Oper)(t:Ty):Prop:=
 ∀a w S,lJ w S->d9 E.base E.B w S O->bO E.N S a need->
  if Region.wanted o (yielded ops a.tmps)then Ij E.P o a w (fun a' w' => ∃v S',a' =a.put o.dst v/\jK sJ w S w' S' /\lJ w' S' /\t.p S' v)else t.p S undef
def je:List Nd->lv
 |[]=>[]
 |n::l=>(n.slot,n.ty)::je l
def A3(o:Oper)(j:Nat):Bool:=o.after.toList.any fun e=>Nat.beq e.on j&&Region.binds .any e
def ot(l:List Oper)(o:Oper)(i:Nat)(n:Nd):Bool:=
 match n.src with
 |some j=>(match l[j]? with|some p=>(match p.dst with|some aL=>Nat.beq aL n.slot|none=>false)|none=>false)&&A3 o j
 |none=>l.all fun p=>(match p.dst with|some aL=> !(Nat.beq aL n.slot)|none=>true)||A3 p i
def xv(G:lv)(ts:List Ty)(n:Nd):Prop:=
 match n.src with
 |some j=>ts[j]? =some n.ty
 |none=>cn G n.slot=some n.ty
def q6(G:lv)(ts:List Ty):List Nd->Prop
 |[]=>True
 |n::l=>xv G ts n/\q6 G ts l
def q6.mem: ∀{l:List Nd},q6 G ts l-> ∀n∈l,xv G ts n
 |_::_,⟨h,_⟩,_,.head _=>h
 |_::_,⟨_,h⟩,_,.tail _ hm=>q6.mem h _ hm
def SU(o:Oper):Nat:=o.dst.getD 0
def ef(i:Nat)(o:Oper):Bool:=o.after.toList.all fun e=> !(Region.binds .any e)||Nat.blt e.on i
def DR(E:En)(O:List OE)(G:lv)(l:List Oper)(ts:List Ty):Nat->List Oper->Prop
 |_,[]=>True
 |i,o::rest=>(∃(needs:List Nd) (t:Ty),ts[i]? =some t/\q6 G ts needs/\(needs.all (ot l o i))=true/\ef i o=true/\cj E O l.toArray (je needs) o t)/\DR E O G l ts (i+1) rest
def uG(N:Nat):List Nat->List Oper->Bool
 |_,[]=>true
 |seen,o::rest=>(match o.dst with|some aL=>Nat.blt aL N&& !(seen.any (Nat.beq aL))&&uG N (aL::seen) rest|none=>false)
def aae(E:En)(O:List OE)(G:lv)(l:List Oper)(ts:List Ty)(i:Nat)(o:Oper):Prop:=
 ∃(needs:List Nd) (t:Ty),ts[i]? =some t/\q6 G ts needs/\(needs.all (ot l o i))=true/\ef i o=true/\cj E O l.toArray (je needs) o t
def DR.get{E:En}{l:List Oper}(r:List Oper): ∀(k:Nat),DR E O G l ts k r-> ∀(j:Nat) (o:Oper),r[j]? =some o->aae E O G l ts (k+j) o:=by
 induction r with
 |nil=>intro k _ j o h;simp at h
 |cons p r ih=>
  intro k h j o ho
  cases j with
  |zero=>simp at ho;subst ho;exact h.1
  |succ j=>
   have:=ih (k+1) h.2 j o (by simpa using ho)
   rwa [show k+1+j=k+(j+1)from by omega]at this
def vQ{N:Nat}(l:List Oper): ∀(seen:List Nat),uG N seen l=true->
  (∀o:Oper,o∈l-> ∃aL,o.dst=some aL/\aL<N/\aL∉seen)/\ ∀(i j:Nat) (o p:Oper),l[i]? =some o->l[j]? =some p->o.dst=p.dst->i=j:=by
 induction l with
 |nil=>exact fun _ _=>⟨fun _ h=>(by cases h),fun _ _ _ _ h=>(by simp at h)⟩
 |cons o l ih=>
  intro seen h
  unfold uG at h
  cases hd:o.dst with
  |none=>rw [hd]at h;cases h
  |some aL=>
   rw [hd]at h
   simp only [nP,DW]at h
   obtain⟨⟨Y,H⟩,s⟩:=h
   have h2' :aL∉seen:=fun hm=>by
    rw [List.any_eq_false]at H
    exact H aL hm (by simp)
   obtain⟨ih1,ih2⟩:=ih _ s
   refine⟨fun q hq=>?_,fun i j q p hi hj hdp=>?_⟩
   ·rcases j8.1 hq with rfl|hq
    ·exact⟨aL,hd,by simpa [tt] using Y,h2'⟩
    ·obtain⟨d',e1,e2,e3⟩:=ih1 q hq
     exact⟨d',e1,e2,fun hm=>e3 (o4 _ hm)⟩
   ·cases i with
    |zero=>
     cases j with
     |zero=>rfl
     |succ j=>
      simp at hi hj
      subst hi
      obtain⟨d',e1,_,e3⟩:=ih1 p (sI hj)
      rw [hd,e1]at hdp
      have e4:aL=d' :=by simpa using hdp
      exact absurd (by rw [e4];exact nQ ..) e3
    |succ i=>
     cases j with
     |zero=>
      simp at hi hj
      subst hj
      obtain⟨d',e1,_,e3⟩:=ih1 q (sI hi)
      rw [hd,e1]at hdp
      have e4:d' =aL:=by simpa using hdp
      exact absurd (by rw [e4];exact nQ ..) e3
     |succ j=>rw [ih2 i j q p (by simpa using hi) (by simpa using hj) hdp]

structure DJ(E:En)(O:List OE)(G:lv)(l:List Oper)(ts:List Ty)(done:Array Bool)(a:Act)(w:World)(S:SH):Prop where
 ext:jK E.B E.w0 E.S0 w S
 sat:lJ w S
 own:d9 E.base E.B w S O
 size:a.tmps.size=E.N.n
 defers:a.defers=E.N.ds
 dsz:done.size=l.length
 down: ∀j o,l[j]? =some o->done.getD j false=true-> ∀e∈o.after,Region.binds .any e=true->done.getD e.on false=true
 old: ∀k t,cn G k=some t->(∀j o,l[j]? =some o->done.getD j false=true->o.dst≠some k)->t.p S (a.tmps.getD k undef)
 new: ∀j o aL t,l[j]? =some o->done.getD j false=true->o.dst=some aL->ts[j]? =some t->t.p S (a.tmps.getD aL undef)
variable{done:Array Bool}
def DJ.need{E:En}{l:List Oper}(h:DJ E O G l ts done a w S)(hi:l[i]? =some o)(hun:done.getD i true=false)(hwait: ∀e∈o.after,Region.binds .any e=true->done.getD e.on false=true){needs:List Nd}(Y:q6 G ts needs)(H:(needs.all (ot l o i))=true):bO E.N S a (je needs):=by
 have hlt:i<done.size:=by rw [h.dsz];exact(q8.1 hi).1
 have hun' :done.getD i false=false:=by
  simp [hlt]at hun ⊢;exact hun
 refine⟨h.size,h.defers,?_⟩
 have key: ∀n∈needs,n.ty.p S (a.tmps.getD n.slot undef):=by
  intro n hn
  have hs:=lw.1 H n hn
  have ho:=Y.mem n hn
  unfold ot at hs
  unfold xv at ho
  cases hsrc:n.src with
  |some j=>
   rw [hsrc]at hs ho
   simp only [nP]at hs
   obtain⟨hs1,hs2⟩:=hs
   cases hj:l[j]? with
   |none=>rw [hj]at hs1;cases hs1
   |some p=>
    rw [hj]at hs1
    cases hd:p.dst with
    |none=>simp only [hd]at hs1;cases hs1
    |some aL=>
     simp only [hd]at hs1
     have hd' :=oq hs1
     subst hd'
     have hdone:done.getD j false=true:=by
      unfold A3 at hs2
      obtain⟨e,he0,W⟩:=B2.1 hs2
      have he:e∈o.after:=by simpa using he0
      simp only [nP]at W
      have:=hwait e he W.2
      rwa [oq W.1]at this
     exact h.new j p n.slot n.ty hj hdone hd ho
  |none=>
   rw [hsrc]at hs ho
   refine h.old _ _ ho fun j p hj hdone hd=>?_
   have:=lw.1 hs p (sI hj)
   simp only [hd,Nat.beq_refl,rk,tu]at this
   unfold A3 at this
   obtain⟨e,he0,W⟩:=B2.1 this
   have he:e∈p.after:=by simpa using he0
   simp only [nP]at W
   have s:=h.down j p hj hdone e he W.2
   rw [oq W.1]at s
   rw [s]at hun'
   cases hun'
 clear Y H
 intro k t hk
 induction needs with
 |nil=>simp [je,cn]at hk
 |cons n needs ih=>
  unfold je cn at hk
  by_cases W:Nat.beq n.slot k=true
  ·rw [W]at hk
   have:=oq W
   subst this
   have e:n.ty=t:=by simpa using hk
   rw [<-e]
   exact key n (nQ ..)
  ·rw [Ab]at W
   rw [W]at hk
   exact ih (fun m hm=>key m (o4 _ hm)) hk
def Kj:List Oper->List Ty->lv->lv
 |o::l,t::ts,G=>(SU o,t)::Kj l ts G
 |_,_,G=>G
def Fc(l:List Oper): ∀(ts:List Ty) (k:Nat) (t:Ty),(∀o:Oper,o∈l->o.dst≠none)->ts.length=l.length->cn (Kj l ts G) k=some t->
  (∃(j:Nat) (o:Oper),l[j]? =some o/\o.dst=some k/\ts[j]? =some t)\/(cn G k=some t/\ ∀o:Oper,o∈l->o.dst≠some k):=by
 induction l with
 |nil=>
  intro ts k t _ hl h
  have:ts=[]:=tA (by simpa using hl)
  subst this
  exact .inr ⟨h,fun _ h=>(by cases h)⟩
 |cons o l ih=>
  intro ts k t hne hl h
  cases ts with
  |nil=>simp at hl
  |cons u ts=>
   unfold Kj cn at h
   by_cases W:Nat.beq (SU o) k=true
   ·rw [W]at h
    have hk:=oq W
    refine .inl ⟨0,o,rfl,?_,by simpa using h⟩
    cases hd:o.dst with
    |none=>exact absurd hd (hne o (nQ ..))
    |some aL=>simp only [SU,hd,Option.getD_some]at hk;rw [hk]
   ·rw [Ab]at W
    rw [W]at h
    rcases ih ts k t (fun p hp=>hne p (o4 _ hp)) (by simpa using hl) h with⟨j,p,Y,H,s⟩|⟨Y,H⟩
    ·exact .inl ⟨j+1,p,by simpa using Y,H,by simpa using s⟩
    ·refine .inr ⟨Y,fun p hp hd=>?_⟩
     rcases j8.1 hp with rfl|hp
     ·simp [SU,hd]at W
     ·exact H p hp hd
def sW(hd:aL<a.tmps.size):(a.put (some aL) v).tmps.getD k undef=if aL=k then v else a.tmps.getD k undef:=by
 by_cases h:aL=k
 ·subst h;simp [Act.put,FP,hd]
 ·simp [Act.put,FP,h]
def DJ.step{E:En}{l:List Oper}(h:DJ E O G l ts done a w S)(hsl:uG E.N.n [] l=true)(hi:l[i]? =some o)(hwait: ∀e∈o.after,Region.binds .any e=true->done.getD e.on false=true)(D:ts[i]? =some t)(hun:done.getD i true=false)(hext:jK sJ w S w' S')(hsat:lJ w' S')(hv:t.p S' v):DJ E O G l ts (done.setIfInBounds i true) (a.put o.dst v) w' S' :=by
 obtain⟨hs1,hs2⟩:=vQ l [] hsl
 obtain⟨aL,hd,hdN,_⟩:=hs1 o (sI hi)
 have hda:aL<a.tmps.size:=by rw [h.size];exact hdN
 have hlt:i<done.size:=by rw [h.dsz];exact(q8.1 hi).1
 have hset: ∀j,(done.setIfInBounds i true).getD j false=true->j=i\/done.getD j false=true:=fun j hj=>by
  by_cases hij:i=j
  ·exact .inl hij.symm
  ·rw [vm false hij]at hj;exact .inr hj
 have hseti:(done.setIfInBounds i true).getD i false=true:=by simp [hlt]
 have hun' :done.getD i false=false:=by simp [hlt]at hun ⊢;exact hun
 refine⟨h.ext.step0 hext,hsat,h.own.ext0 hext,?_,?_,by simp [h.dsz],fun j p hj hdone e he W=>?_,fun k u hk hno=>?_,fun j p d' u hj hdone hd' hu=>?_⟩
 ·rw [hd];simp [Act.put,h.size]
 ·rw [hd];exact h.defers
 ·rcases hset j hdone with rfl|hj'
  ·rw [hi]at hj
   have:o=p:=by simpa using hj
   subst this
   exact xn (hwait e he W)
  ·exact xn (h.down j p hj hj' e he W)
 ·have hne:aL≠k:=fun e=>hno i o hi hseti (by rw [hd,e])
  rw [hd,sW hda,aV hne]
  exact u.mono hext.keep (h.old k u hk fun j p hj hdone=>hno j p hj (xn hdone))
 ·rw [hd,sW hda]
  rcases hset j hdone with rfl|hj'
  ·rw [hi]at hj
   have:o=p:=by simpa using hj
   subst this
   rw [hd]at hd'
   have:aL=d' :=by simpa using hd'
   subst this
   rw [bo rfl]
   rw [D]at hu
   have:t=u:=by simpa using hu
   subst this
   exact hv
  ·have hne:aL≠d' :=fun e=>by
    subst e
    have:=hs2 i j o p hi hj (by rw [hd,hd'])
    subst this
    rw [hj']at hun';cases hun'
   rw [aV hne]
   exact u.mono hext.keep (h.new j p d' u hj hj' hd' hu)
def Jc{l:List Oper}{done:Array Bool}(hsz:done.size=l.length)(hedge: ∀i o,l[i]? =some o->ef i o=true)(hr:Region.ready .any l.toArray done=[]): ∀n i,i<n->i<l.length->done.getD i false=true
 |0,i,h,_=>by omega
 |n+1,i,h,hi=>by
  have ih:=Jc hsz hedge hr n
  by_cases hd:done.getD i true=true
  ·have:i<done.size:=by omega
   simp [this]at hd ⊢;exact hd
  ·exfalso
   have hmem:i∈Region.ready .any l.toArray done:=by
    rw [rU]
    refine⟨by simpa using hd,l[i],by simp [hi],fun e he W=>?_⟩
    have:=hedge i l[i] (by simp [hi])
    unfold ef at this
    have:=lw.1 this e (by simpa using he)
    simp only [W,rk,tu,tt]at this
    exact ih e.on (by omega) (by omega)
   rw [hr]at hmem
   cases hmem
def ld(done:Array Bool):Nat:=done.toList.countP (· ==false)
def qf(h:done.getD i true=false):ld (done.setIfInBounds i true)+1=ld done:=by
 have hlt:i<done.size:=by
  rcases nf i done.size with h' |h'
  ·exact h'
  ·simp [Array.getElem?_eq_none h']at h
 have hv:done[i]=false:=by simpa [hlt] using h
 unfold ld
 rw [Array.toList_setIfInBounds,List.countP_set (by simpa using hlt)]
 have H:(done.toList[i]'(by simpa using hlt))=false:=by simpa using hv
 have hpos:0<done.toList.countP (· ==false):=List.countP_pos_iff.2 ⟨done.toList[i]'(by simpa using hlt),EA _,by rw [H];rfl⟩
 rw [H,bo (show(false==false)=true from rfl),aV (show¬((true==false)=true) by decide)]
 omega
def JE{E:En}{l:List Oper}(hsl:uG E.N.n [] l=true)(hd:DR E O G l ts 0 l)(hQ: ∀done a w S,DJ E O G l ts done a w S->(∀i,i<l.length->done.getD i false=true)->ah .normal a w):
  ∀(fuel:Nat) (done:Array Bool) (a:Act) (w:World) (S:SH),ld done=fuel->DJ E O G l ts done a w S->wpAnyIn (fw E.r) 0 E.P .any l.toArray ah fuel done a w:=by
 have hedge: ∀i o,l[i]? =some o->ef i o=true:=fun i o hi=>by
  obtain⟨_,_,_,_,_,h,_⟩:=DR.get l 0 hd i o hi
  simpa using h
 have fin: ∀done a w S,DJ E O G l ts done a w S->Region.ready .any l.toArray done=[]->ah .normal a w:=fun done a w S h hr=>
  hQ done a w S h fun i hi=>Jc h.dsz hedge hr (i+1) i (by omega) hi
 intro fuel
 induction fuel with
 |zero=>
  intro done a w S hu h
  have hr:Region.ready .any l.toArray done=[]:=by
   cases hr:Region.ready .any l.toArray done with
   |nil=>rfl
   |cons i r=>
    have hm:i∈Region.ready .any l.toArray done:=by rw [hr];exact nQ ..
    have:=qf (rU.1 hm).1
    omega
  exact⟨hr,fin done a w S h hr⟩
 |succ fuel ih=>
  intro done a w S hu h
  refine⟨fin done a w S h,fun i hi=>?_⟩
  obtain⟨hun,o,ho,hwait⟩:=rU.1 hi
  have ho' :l[i]? =some o:=by simpa using ho
  obtain⟨needs,t,Y,H,s,_,h5⟩:=DR.get l 0 hd i o ho'
  rw [vw]at Y s
  have hF:=h.need ho' hun hwait H s
  have h6:=h5 a w S h.sat h.own hF
  have hu' :ld (done.setIfInBounds i true)=fuel:=by have:=qf hun;omega
  unfold wpOpIn
  rw [ho]
  show if _ then _ else _
  by_cases hw:Region.wanted o (yielded l.toArray a.tmps)=true
  ·rw [bo hw]at h6 ⊢
   refine kS (fun a' w' ⟨v,S',ha,he,hs,hv⟩=>?_) h6
   subst ha
   exact ih _ _ _ S' hu' (h.step hsl ho' hwait Y hun he hs hv)
  ·rw [aV hw]at h6 ⊢
   exact⟨fun _ _=>trivial,ih _ _ _ S hu' (h.step hsl ho' hwait Y hun (iP _ _ _) h.sat h6)⟩
section
variable{E:En}
def kE{id:Nat}{l:List Oper}(hm:E.P.follows .mixedOrders=true)(hsl:uG E.N.n [] l=true)(hlen:ts.length=l.length)(hd:DR E O G l ts 0 l)(k:AT E ah .normal O (Kj l ts G)):
  CG E ah (.region id l.toArray true) O G:=fun a w S st=>by
 refine wpIn_region_any hm ?_
 obtain⟨he,hs⟩:=wO (w:=w) st.sat
 refine JE hsl hd (fun done a w S h hall=>k a w S ⟨h.ext,h.sat,h.own,h.size,h.defers,fun j t hj=>?_⟩) _ _ _ _ S ?_
  ⟨st.ext.step0 he,hs,st.own.ext0 he,st.facts.size,st.facts.defers,by simp,fun j o hj hdone=>?_,fun k t hk _=>st.facts.at_ k t hk,fun j o aL t hj hdone=>?_⟩
 ·obtain⟨hs1,_⟩:=vQ l [] hsl
  rcases Fc l ts j t (fun o ho e=>by obtain⟨aL,hd,_⟩:=hs1 o ho;rw [hd]at e;cases e) hlen hj with⟨i,o,Y,H,s⟩|⟨Y,H⟩
  ·exact h.new i o j t Y (hall i (q8.1 Y).1) H s
  ·exact h.old j t Y fun i o ho _=>H o (sI ho)
 ·unfold ld;rw [Lt,Lr];simp
 ·simp [xW]at hdone
  split at hdone<;>simp at hdone
 ·simp [xW]at hdone
  split at hdone<;>simp at hdone
def ac{need:lv}(V:o.guard=none)(h:cm E O need o t):cj E O ops need o t:=fun a w S hs ho hf=>by
 have:Region.wanted o (yielded ops a.tmps)=true:=by unfold Region.wanted;rw [V]
 rw [this,bo rfl]
 exact h a w S hs ho hf
def Bo{l:List Oper}{need:lv}{c:Bool}(V:o.guard=some (j,pol))(hj:((l.toArray)[j]?).bind (·.dst)=some gs)(hgs:Nat.blt gs E.N.n=true)(W:aI E.N need (.tmp gs) (s5 c b))(h:(c&&(b==pol))=true->cm E O need o t):cj E O l.toArray need o (nT (c&&(b==pol)) t):=fun a w S hs ho hf=>by
 have hw:=rY (ops:=l.toArray) V hj (by rw [hf.size];simpa [tt] using hgs) (W S a hf)
 rw [hw]
 by_cases hc:(c&&(b==pol))=true
 ·rw [bo hc]
  refine nY (fun a' w' ⟨v,S',ha,he,hs,hv⟩=>⟨v,S',ha,he,hs,?_⟩) (h hc a w S hs ho hf)
  show if _ then _ else _
  rw [bo hc];exact hv
 ·rw [aV hc]
  show if _ then _ else _
  rw [aV hc]
end
variable{α0 α1 α2 α3 α4:Type}{Gf:α0->α1->α2->α3->α4->lv}{Of:α0->α1->α2->α3->α4->List OE}{α5 α6 α7 α8:Type}
section
variable{E:En}
def Oo{id:Nat}{bx:Prop}{Of:List OE}{Gf:lv}(hK:bx->AT E ah .normal (Of) (Gf))(h:(bx->AT E ah .normal (Of) (Gf))->CG E (Exit.inBlock id ah) c O G):CG E ah (.block id c) O G:=aC (h hK)
def Oh{x y:Code}{bx:Prop}{Of:List OE}{Gf:lv}(hK:bx->CG E ah y (Of) (Gf))
  (h:(bx->AT E (Exit.then (y.wpIn (fw E.r) 0 E.P ah) ah) .normal (Of) (Gf))->CG E (Exit.then (y.wpIn (fw E.r) 0 E.P ah) ah) x O G):CG E ah (.seq x y) O G:=aS (h (fun hz=>hK hz))
def iu{bx:List β->α0->Prop}{Of:List β->α0->List OE}{Gf:List β->α0->lv}(h0: ∀x0,bx [] x0->LG E ah c (Of [] x0) (Gf [] x0))(h: ∀b l,(∀x0,bx l x0->LG E ah c (Of l x0) (Gf l x0))-> ∀x0,bx (b::l) x0->LG E ah c (Of (b::l) x0) (Gf (b::l) x0)): ∀l,∀x0,bx l x0->LG E ah c (Of l x0) (Gf l x0)
 |[]=>h0
 |b::l=>h b l (iu h0 h l)
def FL{id:Nat}{bx:α0->Prop}{Of:α0->List OE}{Gf:α0->lv}(hK: ∀x0,bx x0->AT E ah .normal (Of x0) (Gf x0))(h:(∀x0,bx x0->AT E ah .normal (Of x0) (Gf x0))->CG E (Exit.inBlock id ah) c O G):CG E ah (.block id c) O G:=aC (h hK)
def iy{x y:Code}{bx:α0->Prop}{Of:α0->List OE}{Gf:α0->lv}(hK: ∀x0,bx x0->CG E ah y (Of x0) (Gf x0))(h:(∀x0,bx x0->AT E (Exit.then (y.wpIn (fw E.r) 0 E.P ah) ah) .normal (Of x0) (Gf x0))->CG E (Exit.then (y.wpIn (fw E.r) 0 E.P ah) ah) x O G):CG E ah (.seq x y) O G:=aS (h (fun x0=>fun hz=>hK x0 hz))
def BY{bx:Nat->α0->α1->Prop}{Of:α0->α1->List OE}{Gf:α0->α1->lv}(h0: ∀x0 x1,bx 0 x0 x1->False)(h: ∀n,(∀x0 x1,bx n x0 x1->LG E ah c (Of x0 x1) (Gf x0 x1))-> ∀x0 x1,bx (n+1) x0 x1->LG E ah c (Of x0 x1) (Gf x0 x1)): ∀n,∀x0 x1,bx n x0 x1->LG E ah c (Of x0 x1) (Gf x0 x1)
 |0=>fun x0 x1 hz=>(h0 x0 x1 hz).elim
 |n+1=>h n (BY h0 h n)
def wM{bx:List β->α0->α1->Prop}{Of:List β->α0->α1->List OE}{Gf:List β->α0->α1->lv}(h0: ∀x0 x1,bx [] x0 x1->LG E ah c (Of [] x0 x1) (Gf [] x0 x1))(h: ∀b l,(∀x0 x1,bx l x0 x1->LG E ah c (Of l x0 x1) (Gf l x0 x1))-> ∀x0 x1,bx (b::l) x0 x1->LG E ah c (Of (b::l) x0 x1) (Gf (b::l) x0 x1)): ∀l,∀x0 x1,bx l x0 x1->LG E ah c (Of l x0 x1) (Gf l x0 x1)
 |[]=>h0
 |b::l=>h b l (wM h0 h l)
def FI{x y:Code}{bx:α0->α1->Prop}{Of:α0->α1->List OE}{Gf:α0->α1->lv}(hK: ∀x0 x1,bx x0 x1->CG E ah y (Of x0 x1) (Gf x0 x1))(h:(∀x0 x1,bx x0 x1->AT E (Exit.then (y.wpIn (fw E.r) 0 E.P ah) ah) .normal (Of x0 x1) (Gf x0 x1))->CG E (Exit.then (y.wpIn (fw E.r) 0 E.P ah) ah) x O G):CG E ah (.seq x y) O G:=aS (h (fun x0 x1=>fun hz=>hK x0 x1 hz))
def MN{bx:Nat->α0->α1->α2->Prop}{Of:α0->α1->α2->List OE}{Gf:α0->α1->α2->lv}(h0: ∀x0 x1 x2,bx 0 x0 x1 x2->False)(h: ∀n,(∀x0 x1 x2,bx n x0 x1 x2->LG E ah c (Of x0 x1 x2) (Gf x0 x1 x2))-> ∀x0 x1 x2,bx (n+1) x0 x1 x2->LG E ah c (Of x0 x1 x2) (Gf x0 x1 x2)): ∀n,∀x0 x1 x2,bx n x0 x1 x2->LG E ah c (Of x0 x1 x2) (Gf x0 x1 x2)
 |0=>fun x0 x1 x2 hz=>(h0 x0 x1 x2 hz).elim
 |n+1=>h n (MN h0 h n)
def DI{bx:List β->α0->α1->α2->Prop}{Of:List β->α0->α1->α2->List OE}{Gf:List β->α0->α1->α2->lv}(h0: ∀x0 x1 x2,bx [] x0 x1 x2->LG E ah c (Of [] x0 x1 x2) (Gf [] x0 x1 x2))(h: ∀b l,(∀x0 x1 x2,bx l x0 x1 x2->LG E ah c (Of l x0 x1 x2) (Gf l x0 x1 x2))-> ∀x0 x1 x2,bx (b::l) x0 x1 x2->LG E ah c (Of (b::l) x0 x1 x2) (Gf (b::l) x0 x1 x2)): ∀l,∀x0 x1 x2,bx l x0 x1 x2->LG E ah c (Of l x0 x1 x2) (Gf l x0 x1 x2)
 |[]=>h0
 |b::l=>h b l (DI h0 h l)
def MM{bx:Nat->α0->α1->α2->Prop}{Of:Nat->α0->α1->α2->List OE}{Gf:Nat->α0->α1->α2->lv}(h0: ∀x0 x1 x2,bx 0 x0 x1 x2->LG E ah c (Of 0 x0 x1 x2) (Gf 0 x0 x1 x2))(h: ∀n,(∀x0 x1 x2,bx n x0 x1 x2->LG E ah c (Of n x0 x1 x2) (Gf n x0 x1 x2))-> ∀x0 x1 x2,bx (n+1) x0 x1 x2->LG E ah c (Of (n+1) x0 x1 x2) (Gf (n+1) x0 x1 x2)): ∀n,∀x0 x1 x2,bx n x0 x1 x2->LG E ah c (Of n x0 x1 x2) (Gf n x0 x1 x2)
 |0=>h0
 |n+1=>h n (MM h0 h n)
def FH{x y:Code}{bx:α0->α1->α2->Prop}{Of:α0->α1->α2->List OE}{Gf:α0->α1->α2->lv}(hK: ∀x0 x1 x2,bx x0 x1 x2->CG E ah y (Of x0 x1 x2) (Gf x0 x1 x2))(h:(∀x0 x1 x2,bx x0 x1 x2->AT E (Exit.then (y.wpIn (fw E.r) 0 E.P ah) ah) .normal (Of x0 x1 x2) (Gf x0 x1 x2))->CG E (Exit.then (y.wpIn (fw E.r) 0 E.P ah) ah) x O G):CG E ah (.seq x y) O G:=aS (h (fun x0 x1 x2=>fun hz=>hK x0 x1 x2 hz))
def BX{bx:Nat->α0->α1->α2->α3->Prop}{Of:α0->α1->α2->α3->List OE}{Gf:α0->α1->α2->α3->lv}(h0: ∀x0 x1 x2 x3,bx 0 x0 x1 x2 x3->False)(h: ∀n,(∀x0 x1 x2 x3,bx n x0 x1 x2 x3->LG E ah c (Of x0 x1 x2 x3) (Gf x0 x1 x2 x3))-> ∀x0 x1 x2 x3,bx (n+1) x0 x1 x2 x3->LG E ah c (Of x0 x1 x2 x3) (Gf x0 x1 x2 x3)): ∀n,∀x0 x1 x2 x3,bx n x0 x1 x2 x3->LG E ah c (Of x0 x1 x2 x3) (Gf x0 x1 x2 x3)
 |0=>fun x0 x1 x2 x3 hz=>(h0 x0 x1 x2 x3 hz).elim
 |n+1=>h n (BX h0 h n)
def mJ{bx:List β->α0->α1->α2->α3->Prop}{Of:List β->α0->α1->α2->α3->List OE}{Gf:List β->α0->α1->α2->α3->lv}(h0: ∀x0 x1 x2 x3,bx [] x0 x1 x2 x3->LG E ah c (Of [] x0 x1 x2 x3) (Gf [] x0 x1 x2 x3))(h: ∀b l,(∀x0 x1 x2 x3,bx l x0 x1 x2 x3->LG E ah c (Of l x0 x1 x2 x3) (Gf l x0 x1 x2 x3))-> ∀x0 x1 x2 x3,bx (b::l) x0 x1 x2 x3->LG E ah c (Of (b::l) x0 x1 x2 x3) (Gf (b::l) x0 x1 x2 x3)): ∀l,∀x0 x1 x2 x3,bx l x0 x1 x2 x3->LG E ah c (Of l x0 x1 x2 x3) (Gf l x0 x1 x2 x3)
 |[]=>h0
 |b::l=>h b l (mJ h0 h l)
def FK{id:Nat}{bx:α0->α1->α2->α3->Prop}{Of:α0->α1->α2->α3->List OE}{Gf:α0->α1->α2->α3->lv}(hK: ∀x0 x1 x2 x3,bx x0 x1 x2 x3->AT E ah .normal (Of x0 x1 x2 x3) (Gf x0 x1 x2 x3))(h:(∀x0 x1 x2 x3,bx x0 x1 x2 x3->AT E ah .normal (Of x0 x1 x2 x3) (Gf x0 x1 x2 x3))->CG E (Exit.inBlock id ah) c O G):CG E ah (.block id c) O G:=aC (h hK)
def G9{bx:Nat->α0->α1->α2->α3->α4->Prop}(h0: ∀x0 x1 x2 x3 x4,bx 0 x0 x1 x2 x3 x4->False)(h: ∀n,(∀x0 x1 x2 x3 x4,bx n x0 x1 x2 x3 x4->LG E ah c (Of x0 x1 x2 x3 x4) (Gf x0 x1 x2 x3 x4))-> ∀x0 x1 x2 x3 x4,bx (n+1) x0 x1 x2 x3 x4->LG E ah c (Of x0 x1 x2 x3 x4) (Gf x0 x1 x2 x3 x4)): ∀n,∀x0 x1 x2 x3 x4,bx n x0 x1 x2 x3 x4->LG E ah c (Of x0 x1 x2 x3 x4) (Gf x0 x1 x2 x3 x4)
 |0=>fun x0 x1 x2 x3 x4 hz=>(h0 x0 x1 x2 x3 x4 hz).elim
 |n+1=>h n (G9 h0 h n)
def Jj{bx:List β->α0->α1->α2->α3->α4->Prop}{Of:List β->α0->α1->α2->α3->α4->List OE}{Gf:List β->α0->α1->α2->α3->α4->lv}(h0: ∀x0 x1 x2 x3 x4,bx [] x0 x1 x2 x3 x4->LG E ah c (Of [] x0 x1 x2 x3 x4) (Gf [] x0 x1 x2 x3 x4))(h: ∀b l,(∀x0 x1 x2 x3 x4,bx l x0 x1 x2 x3 x4->LG E ah c (Of l x0 x1 x2 x3 x4) (Gf l x0 x1 x2 x3 x4))-> ∀x0 x1 x2 x3 x4,bx (b::l) x0 x1 x2 x3 x4->LG E ah c (Of (b::l) x0 x1 x2 x3 x4) (Gf (b::l) x0 x1 x2 x3 x4)): ∀l,∀x0 x1 x2 x3 x4,bx l x0 x1 x2 x3 x4->LG E ah c (Of l x0 x1 x2 x3 x4) (Gf l x0 x1 x2 x3 x4)
 |[]=>h0
 |b::l=>h b l (Jj h0 h l)
def ML{bx:Nat->α0->α1->α2->α3->α4->Prop}{Of:Nat->α0->α1->α2->α3->α4->List OE}{Gf:Nat->α0->α1->α2->α3->α4->lv}(h0: ∀x0 x1 x2 x3 x4,bx 0 x0 x1 x2 x3 x4->LG E ah c (Of 0 x0 x1 x2 x3 x4) (Gf 0 x0 x1 x2 x3 x4))(h: ∀n,(∀x0 x1 x2 x3 x4,bx n x0 x1 x2 x3 x4->LG E ah c (Of n x0 x1 x2 x3 x4) (Gf n x0 x1 x2 x3 x4))-> ∀x0 x1 x2 x3 x4,bx (n+1) x0 x1 x2 x3 x4->LG E ah c (Of (n+1) x0 x1 x2 x3 x4) (Gf (n+1) x0 x1 x2 x3 x4)): ∀n,∀x0 x1 x2 x3 x4,bx n x0 x1 x2 x3 x4->LG E ah c (Of n x0 x1 x2 x3 x4) (Gf n x0 x1 x2 x3 x4)
 |0=>h0
 |n+1=>h n (ML h0 h n)
def uy{id:Nat}{bx:α0->α1->α2->α3->α4->Prop}(hK: ∀x0 x1 x2 x3 x4,bx x0 x1 x2 x3 x4->AT E ah .normal (Of x0 x1 x2 x3 x4) (Gf x0 x1 x2 x3 x4))(h:(∀x0 x1 x2 x3 x4,bx x0 x1 x2 x3 x4->AT E ah .normal (Of x0 x1 x2 x3 x4) (Gf x0 x1 x2 x3 x4))->CG E (Exit.inBlock id ah) c O G):CG E ah (.block id c) O G:=aC (h hK)
def FG{x y:Code}{bx:α0->α1->α2->α3->α4->Prop}(hK: ∀x0 x1 x2 x3 x4,bx x0 x1 x2 x3 x4->CG E ah y (Of x0 x1 x2 x3 x4) (Gf x0 x1 x2 x3 x4))(h:(∀x0 x1 x2 x3 x4,bx x0 x1 x2 x3 x4->AT E (Exit.then (y.wpIn (fw E.r) 0 E.P ah) ah) .normal (Of x0 x1 x2 x3 x4) (Gf x0 x1 x2 x3 x4))->CG E (Exit.then (y.wpIn (fw E.r) 0 E.P ah) ah) x O G):CG E ah (.seq x y) O G:=aS (h (fun x0 x1 x2 x3 x4=>fun hz=>hK x0 x1 x2 x3 x4 hz))
def vj{bx:Nat->α0->α1->α2->α3->α4->α5->Prop}{Of:α0->α1->α2->α3->α4->α5->List OE}{Gf:α0->α1->α2->α3->α4->α5->lv}(h0: ∀x0 x1 x2 x3 x4 x5,bx 0 x0 x1 x2 x3 x4 x5->False)(h: ∀n,(∀x0 x1 x2 x3 x4 x5,bx n x0 x1 x2 x3 x4 x5->LG E ah c (Of x0 x1 x2 x3 x4 x5) (Gf x0 x1 x2 x3 x4 x5))-> ∀x0 x1 x2 x3 x4 x5,bx (n+1) x0 x1 x2 x3 x4 x5->LG E ah c (Of x0 x1 x2 x3 x4 x5) (Gf x0 x1 x2 x3 x4 x5)): ∀n,∀x0 x1 x2 x3 x4 x5,bx n x0 x1 x2 x3 x4 x5->LG E ah c (Of x0 x1 x2 x3 x4 x5) (Gf x0 x1 x2 x3 x4 x5)
 |0=>fun x0 x1 x2 x3 x4 x5 hz=>(h0 x0 x1 x2 x3 x4 x5 hz).elim
 |n+1=>h n (vj h0 h n)
def Ji{bx:List β->α0->α1->α2->α3->α4->α5->Prop}{Of:List β->α0->α1->α2->α3->α4->α5->List OE}{Gf:List β->α0->α1->α2->α3->α4->α5->lv}(h0: ∀x0 x1 x2 x3 x4 x5,bx [] x0 x1 x2 x3 x4 x5->LG E ah c (Of [] x0 x1 x2 x3 x4 x5) (Gf [] x0 x1 x2 x3 x4 x5))(h: ∀b l,(∀x0 x1 x2 x3 x4 x5,bx l x0 x1 x2 x3 x4 x5->LG E ah c (Of l x0 x1 x2 x3 x4 x5) (Gf l x0 x1 x2 x3 x4 x5))-> ∀x0 x1 x2 x3 x4 x5,bx (b::l) x0 x1 x2 x3 x4 x5->LG E ah c (Of (b::l) x0 x1 x2 x3 x4 x5) (Gf (b::l) x0 x1 x2 x3 x4 x5)): ∀l,∀x0 x1 x2 x3 x4 x5,bx l x0 x1 x2 x3 x4 x5->LG E ah c (Of l x0 x1 x2 x3 x4 x5) (Gf l x0 x1 x2 x3 x4 x5)
 |[]=>h0
 |b::l=>h b l (Ji h0 h l)
def On{id:Nat}{bx:α0->α1->α2->α3->α4->α5->Prop}{Of:α0->α1->α2->α3->α4->α5->List OE}{Gf:α0->α1->α2->α3->α4->α5->lv}(hK: ∀x0 x1 x2 x3 x4 x5,bx x0 x1 x2 x3 x4 x5->AT E ah .normal (Of x0 x1 x2 x3 x4 x5) (Gf x0 x1 x2 x3 x4 x5))(h:(∀x0 x1 x2 x3 x4 x5,bx x0 x1 x2 x3 x4 x5->AT E ah .normal (Of x0 x1 x2 x3 x4 x5) (Gf x0 x1 x2 x3 x4 x5))->CG E (Exit.inBlock id ah) c O G):CG E ah (.block id c) O G:=aC (h hK)
def DH{bx:List β->α0->α1->α2->α3->α4->α5->α6->Prop}{Of:List β->α0->α1->α2->α3->α4->α5->α6->List OE}{Gf:List β->α0->α1->α2->α3->α4->α5->α6->lv}(h0: ∀x0 x1 x2 x3 x4 x5 x6,bx [] x0 x1 x2 x3 x4 x5 x6->LG E ah c (Of [] x0 x1 x2 x3 x4 x5 x6) (Gf [] x0 x1 x2 x3 x4 x5 x6))(h: ∀b l,(∀x0 x1 x2 x3 x4 x5 x6,bx l x0 x1 x2 x3 x4 x5 x6->LG E ah c (Of l x0 x1 x2 x3 x4 x5 x6) (Gf l x0 x1 x2 x3 x4 x5 x6))-> ∀x0 x1 x2 x3 x4 x5 x6,bx (b::l) x0 x1 x2 x3 x4 x5 x6->LG E ah c (Of (b::l) x0 x1 x2 x3 x4 x5 x6) (Gf (b::l) x0 x1 x2 x3 x4 x5 x6)): ∀l,∀x0 x1 x2 x3 x4 x5 x6,bx l x0 x1 x2 x3 x4 x5 x6->LG E ah c (Of l x0 x1 x2 x3 x4 x5 x6) (Gf l x0 x1 x2 x3 x4 x5 x6)
 |[]=>h0
 |b::l=>h b l (DH h0 h l)
def uv{bx:List β->α0->α1->α2->α3->α4->α5->α6->α7->Prop}{Of:List β->α0->α1->α2->α3->α4->α5->α6->α7->List OE}{Gf:List β->α0->α1->α2->α3->α4->α5->α6->α7->lv}(h0: ∀x0 x1 x2 x3 x4 x5 x6 x7,bx [] x0 x1 x2 x3 x4 x5 x6 x7->LG E ah c (Of [] x0 x1 x2 x3 x4 x5 x6 x7) (Gf [] x0 x1 x2 x3 x4 x5 x6 x7))(h: ∀b l,(∀x0 x1 x2 x3 x4 x5 x6 x7,bx l x0 x1 x2 x3 x4 x5 x6 x7->LG E ah c (Of l x0 x1 x2 x3 x4 x5 x6 x7) (Gf l x0 x1 x2 x3 x4 x5 x6 x7))-> ∀x0 x1 x2 x3 x4 x5 x6 x7,bx (b::l) x0 x1 x2 x3 x4 x5 x6 x7->LG E ah c (Of (b::l) x0 x1 x2 x3 x4 x5 x6 x7) (Gf (b::l) x0 x1 x2 x3 x4 x5 x6 x7)): ∀l,∀x0 x1 x2 x3 x4 x5 x6 x7,bx l x0 x1 x2 x3 x4 x5 x6 x7->LG E ah c (Of l x0 x1 x2 x3 x4 x5 x6 x7) (Gf l x0 x1 x2 x3 x4 x5 x6 x7)
 |[]=>h0
 |b::l=>h b l (uv h0 h l)
def zW{bx:List β->α0->α1->α2->α3->α4->α5->α6->α7->α8->Prop}{Of:List β->α0->α1->α2->α3->α4->α5->α6->α7->α8->List OE}{Gf:List β->α0->α1->α2->α3->α4->α5->α6->α7->α8->lv}(h0: ∀x0 x1 x2 x3 x4 x5 x6 x7 x8,bx [] x0 x1 x2 x3 x4 x5 x6 x7 x8->LG E ah c (Of [] x0 x1 x2 x3 x4 x5 x6 x7 x8) (Gf [] x0 x1 x2 x3 x4 x5 x6 x7 x8))(h: ∀b l,(∀x0 x1 x2 x3 x4 x5 x6 x7 x8,bx l x0 x1 x2 x3 x4 x5 x6 x7 x8->LG E ah c (Of l x0 x1 x2 x3 x4 x5 x6 x7 x8) (Gf l x0 x1 x2 x3 x4 x5 x6 x7 x8))-> ∀x0 x1 x2 x3 x4 x5 x6 x7 x8,bx (b::l) x0 x1 x2 x3 x4 x5 x6 x7 x8->LG E ah c (Of (b::l) x0 x1 x2 x3 x4 x5 x6 x7 x8) (Gf (b::l) x0 x1 x2 x3 x4 x5 x6 x7 x8)): ∀l,∀x0 x1 x2 x3 x4 x5 x6 x7 x8,bx l x0 x1 x2 x3 x4 x5 x6 x7 x8->LG E ah c (Of l x0 x1 x2 x3 x4 x5 x6 x7 x8) (Gf l x0 x1 x2 x3 x4 x5 x6 x7 x8)
 |[]=>h0
 |b::l=>h b l (zW h0 h l)
def FJ{id:Nat}{bx:α0->α1->α2->α3->α4->α5->α6->α7->α8->Prop}{Of:α0->α1->α2->α3->α4->α5->α6->α7->α8->List OE}{Gf:α0->α1->α2->α3->α4->α5->α6->α7->α8->lv}(hK: ∀x0 x1 x2 x3 x4 x5 x6 x7 x8,bx x0 x1 x2 x3 x4 x5 x6 x7 x8->AT E ah .normal (Of x0 x1 x2 x3 x4 x5 x6 x7 x8) (Gf x0 x1 x2 x3 x4 x5 x6 x7 x8))(h:(∀x0 x1 x2 x3 x4 x5 x6 x7 x8,bx x0 x1 x2 x3 x4 x5 x6 x7 x8->AT E ah .normal (Of x0 x1 x2 x3 x4 x5 x6 x7 x8) (Gf x0 x1 x2 x3 x4 x5 x6 x7 x8))->CG E (Exit.inBlock id ah) c O G):CG E ah (.block id c) O G:=aC (h hK)
def DK{α9:Type}{bx:Nat->α0->α1->α2->α3->α4->α5->α6->α7->α8->α9->Prop}{Of:α0->α1->α2->α3->α4->α5->α6->α7->α8->α9->List OE}{Gf:α0->α1->α2->α3->α4->α5->α6->α7->α8->α9->lv}(h0: ∀x0 x1 x2 x3 x4 x5 x6 x7 x8 x9,bx 0 x0 x1 x2 x3 x4 x5 x6 x7 x8 x9->False)(h: ∀n,(∀x0 x1 x2 x3 x4 x5 x6 x7 x8 x9,bx n x0 x1 x2 x3 x4 x5 x6 x7 x8 x9->LG E ah c (Of x0 x1 x2 x3 x4 x5 x6 x7 x8 x9) (Gf x0 x1 x2 x3 x4 x5 x6 x7 x8 x9))-> ∀x0 x1 x2 x3 x4 x5 x6 x7 x8 x9,bx (n+1) x0 x1 x2 x3 x4 x5 x6 x7 x8 x9->LG E ah c (Of x0 x1 x2 x3 x4 x5 x6 x7 x8 x9) (Gf x0 x1 x2 x3 x4 x5 x6 x7 x8 x9)): ∀n,∀x0 x1 x2 x3 x4 x5 x6 x7 x8 x9,bx n x0 x1 x2 x3 x4 x5 x6 x7 x8 x9->LG E ah c (Of x0 x1 x2 x3 x4 x5 x6 x7 x8 x9) (Gf x0 x1 x2 x3 x4 x5 x6 x7 x8 x9)
 |0=>fun x0 x1 x2 x3 x4 x5 x6 x7 x8 x9 hz=>(h0 x0 x1 x2 x3 x4 x5 x6 x7 x8 x9 hz).elim
 |n+1=>h n (DK h0 h n)
end
def bs{α:Type _}{β:Type _}{x:Option α}{k:α->Option β}{r:β}(h:x.bind k=some r): ∃y,x=some y/\k y=some r:=by
 cases x with
 |none=>cases h
 |some y=>exact⟨y,rfl,h⟩
def ct{β:Type _}{x y:Option β}{r:β}(h:(if b=true then x else y)=some r)(W:b=true):x=some r:=by rwa [bo W]at h
def cf{β:Type _}{x y:Option β}{r:β}(h:(if b=true then x else y)=some r)(W:b=false):y=some r:=by rwa [aV (by rw [W];decide)]at h
def so{β:Type _}{x r:β}(h:some x=some r):x=r:=by simpa using h
def og [Inhabited α]{x:Option α}{k:α->Option β}{aL:Option β}{r:β}(h:(if b=true then x.bind k else aL)=some r): ∃y,(b=true->x=some y/\k y=some r)/\(b=false->aL=some r):=by
 cases b with
 |true=>obtain⟨y,Y,H⟩:=bs (ct h rfl);exact⟨y,fun _=>⟨Y,H⟩,fun e=>(by cases e)⟩
 |false=>exact⟨default,fun e=>(by cases e),fun _=>cf h rfl⟩

def dD{α β:Type}(p:Rp α)(q:Rp β):Rp (α×β) where
 sz:=p.sz+q.sz
 agg:=true
 rc:=fun S cs x=> ∃a b,cs=a++b/\p.rc S a x.1/\q.rc S b x.2
 mono:=fun h ⟨a,b,e,Y,H⟩=>⟨a,b,e,p.mono h Y,q.mono h H⟩
 len:=fun⟨a,b,e,Y,H⟩=>by rw [e,kJ,p.len Y,q.len H]
 one:=fun⟨a,b,e,Y,H⟩ c hc=>by
  rw [e]at hc
  rcases xV.1 hc with h|h
  ·exact p.one Y c h
  ·exact q.one H c h
 sc:=fun h=>by cases h
def rf{α β:Type}(p:Rp α)(f:β->α):Rp β where
 sz:=p.sz
 agg:=true
 rc:=fun S cs x=>p.rc S cs (f x)
 mono:=fun h k=>p.mono h k
 len:=fun h=>p.len h
 one:=fun h=>p.one h
 sc:=fun h=>by cases h
def bZ{p:Rp α}{f:β->α}:kP (rf p f) 0 p f:=fun S cs x h=>by
 have h' :p.rc S cs (f x):=h
 have hl:=p.len h'
 rw [z2,<-hl,B1];exact h'
def cZ{γ:Type}{p:Rp α}{r:Rp γ}{get:γ->α×β}(h:kP r off (dD p q) get):kP r off p (fun x=>(get x).1):=fun S cs x k=>by
 obtain⟨a,b,e,Y,H⟩:=h S cs x k
 have hl:=p.len Y
 have hl2:=q.len H
 have:(cs.drop off).take p.sz=a:=by
  have e2:=congrArg (List.take p.sz) e
  rw [yN,vJ (by show p.sz<=p.sz+q.sz;omega),<-hl,List.take_left]at e2
  rw [<-hl];exact e2
 rw [this];exact Y
def aB{γ:Type}{p:Rp α}{r:Rp γ}{off' :Nat}{get:γ->α×β}(h:kP r off (dD p q) get)(ho:off' =off+p.sz):kP r off' q (fun x=>(get x).2):=fun S cs x k=>by
 obtain⟨a,b,e,Y,H⟩:=h S cs x k
 have hl:=p.len Y
 have hl2:=q.len H
 have:(cs.drop off').take q.sz=b:=by
  have e2:=congrArg (List.drop p.sz) e
  rw [xz,rP,<-hl,List.drop_left]at e2
  rw [ho,<-hl,<-e2]
  congr 1
  show q.sz=p.sz+q.sz-a.length
  omega
 rw [this];exact H

section
variable{E:En}
def S5{op:Op}{ty:TypeId}(hj:(ops[j]?).bind (·.dst)=some gs)(hgs:Nat.blt gs E.N.n=true)(V:cn G gs=some (tD rB b))(hd:Nat.blt aL E.N.n=true)(h:b=true->cm E O G ⟨some aL,op,ty,pos,after,some (j,true)⟩ t)(k:RG E ops ah rest O ((aL,nT b t)::G)):RG E ops ah (⟨some aL,op,ty,pos,after,some (j,true)⟩::rest) O G:=by
 have e:(true&&(b==true))=b:=by cases b<;>rfl
 exact G7 hj hgs (pj V) hd (by rw [e];exact h) (by rw [e];exact k)
def S6{op:Op}{ty:TypeId}(hj:(ops[j]?).bind (·.dst)=some gs)(hgs:Nat.blt gs E.N.n=true)(V:cn G gs=some (tD rB b))(hd:Nat.blt aL E.N.n=true)(h:(!b)=true->cm E O G ⟨some aL,op,ty,pos,after,some (j,false)⟩ t)(k:RG E ops ah rest O ((aL,nT (!b) t)::G)):RG E ops ah (⟨some aL,op,ty,pos,after,some (j,false)⟩::rest) O G:=by
 have e:(true&&(b==false))= !b:=by cases b<;>rfl
 exact G7 hj hgs (pj V) hd (by rw [e];exact h) (by rw [e];exact k)
def iO{c:Bool}{op:Op}{ty:TypeId}(hj:(ops[j]?).bind (·.dst)=some gs)(hgs:Nat.blt gs E.N.n=true)(V:cn G gs=some (nT c (tD rB b)))(hd:Nat.blt aL E.N.n=true)(h:(c&&b)=true->cm E O G ⟨some aL,op,ty,pos,after,some (j,true)⟩ t)(k:RG E ops ah rest O ((aL,nT (c&&b) t)::G)):RG E ops ah (⟨some aL,op,ty,pos,after,some (j,true)⟩::rest) O G:=by
 have e:(c&&(b==true))=(c&&b):=by cases b<;>rfl
 exact G7 hj hgs (Ax V) hd (by rw [e];exact h) (by rw [e];exact k)
def dw{c:Bool}{op:Op}{ty:TypeId}(hj:(ops[j]?).bind (·.dst)=some gs)(hgs:Nat.blt gs E.N.n=true)(V:cn G gs=some (nT c (tD rB b)))(hd:Nat.blt aL E.N.n=true)(h:(c&& !b)=true->cm E O G ⟨some aL,op,ty,pos,after,some (j,false)⟩ t)(k:RG E ops ah rest O ((aL,nT (c&& !b) t)::G)):RG E ops ah (⟨some aL,op,ty,pos,after,some (j,false)⟩::rest) O G:=by
 have e:(c&&(b==false))=(c&& !b):=by cases b<;>rfl
 exact G7 hj hgs (Ax V) hd (by rw [e];exact h) (by rw [e];exact k)
def nN{l:List Oper}{need:lv}(V:o.guard=some (j,true))(hj:((l.toArray)[j]?).bind (·.dst)=some gs)(hgs:Nat.blt gs E.N.n=true)(W:cn need gs=some (tD rB b))(h:b=true->cm E O need o t):cj E O l.toArray need o (nT b t):=by
 have e:(true&&(b==true))=b:=by cases b<;>rfl
 have:=Bo (t:=t) V hj hgs (pj (E:=E) W) (by rw [e];exact h)
 rwa [e]at this
def nO{l:List Oper}{need:lv}(V:o.guard=some (j,false))(hj:((l.toArray)[j]?).bind (·.dst)=some gs)(hgs:Nat.blt gs E.N.n=true)(W:cn need gs=some (tD rB b))(h:(!b)=true->cm E O need o t):cj E O l.toArray need o (nT (!b) t):=by
 have e:(true&&(b==false))= !b:=by cases b<;>rfl
 have:=Bo (t:=t) V hj hgs (pj (E:=E) W) (by rw [e];exact h)
 rwa [e]at this
def yK{a:Bool}(h:a=true)(k:b=true):(a&&b)=true:=by rw [h,k];rfl
def Au{a:Bool}(h:a=false):(!a)=true:=by rw [h];rfl
def zZ{c:Operand}{x y:Code}(W:aI E.N G c (tD rB b))(h:b=true)(X:CG E ah x O G):CG E ah (.cond c x y) O G:=pY W (fun _=>X) (fun e=>by rw [h]at e;cases e)
def z1{c:Operand}{x y:Code}(W:aI E.N G c (tD rB b))(h:b=false)(hy:CG E ah y O G):CG E ah (.cond c x y) O G:=pY W (fun e=>by rw [h]at e;cases e) (fun _=>hy)
end
def og2 [Inhabited α]{x:Option α}{k:α->Option β}{r:β}(h:b=true->x.bind k=some r): ∃y,b=true->x=some y/\k y=some r:=by
 cases b with
 |true=>obtain⟨y,Y,H⟩:=bs (h rfl);exact⟨y,fun _=>⟨Y,H⟩⟩
 |false=>exact⟨default,fun e=>(by cases e)⟩
section
variable{E:En}{ty:TypeId}
def oU{c:Operand}{q:Bool}(hc:aI E.N G c (tD rB b))(X:b=true->aI E.N G x (tD rB q)):cm E O G ⟨dst,.pick c x (.const (.bool false)),ty,pos,after,g⟩ (tD rB (b&&q)):=by
 refine w6 hc (fun h=>?_) (fun h=>?_)
 ·subst h;exact X rfl
 ·subst h;exact hB
def mO{c:Operand}{q:Bool}(hc:aI E.N G c (tD rB b))(X:b=false->aI E.N G x (tD rB q)):cm E O G ⟨dst,.pick c (.const (.bool true)) x,ty,pos,after,g⟩ (tD rB (b||q)):=by
 refine w6 hc (fun h=>?_) (fun h=>?_)
 ·subst h;exact hB
 ·subst h;exact X rfl
def cR{c:Operand}{q t:Bool}(hc:aI E.N G c (tD rB b))(X:b=true->aI E.N G x (tD rB q))(e1:b=true->some q=some t)(e0:b=false->some false=some t):cm E O G ⟨dst,.pick c x (.const (.bool false)),ty,pos,after,g⟩ (tD rB t):=by
 refine w6 hc (fun h=>?_) (fun h=>?_)
 ·rw [<-so (e1 h)];exact X h
 ·rw [<-so (e0 h)];exact hB
def ym{c:Operand}{q t:Bool}(hc:aI E.N G c (tD rB b))(X:b=false->aI E.N G x (tD rB q))(e1:(!b)=true->some q=some t)(e0:(!b)=false->some true=some t):cm E O G ⟨dst,.pick c (.const (.bool true)) x,ty,pos,after,g⟩ (tD rB t):=by
 refine w6 hc (fun h=>?_) (fun h=>?_)
 ·rw [<-so (e0 (by rw [h];rfl))];exact hB
 ·rw [<-so (e1 (by rw [h];rfl))];exact X h
def Kp(hi:ts[i]? =some t)(X:aI E.N G x (tT ts)):cm E O G ⟨dst,.extract x i,ty,pos,after,g⟩ t:=
 .of_pure fun a w S _ _ hf=>by
  obtain⟨vs,Y,H⟩:=X S a hf
  obtain⟨v,s,h4⟩:=H.at_ i t hi
  exact⟨v,by simp [execOp,Y,Instr.extract,s],h4⟩
def RL{k:IntKind}{m n:Int}(X:aI E.N G x (tD (rI k) m))(hy:aI E.N G y (tD (rI k) n)):cm E O G ⟨dst,.call ⟨.builtin .min,#[x,y],ats⟩,ty,pos,after,g⟩ (tD (rI k) (min m n)):=
 .of_pure fun a w S _ _ hf=>by
  have Y:a.eval x= .int k m:=dE.1 (X S a hf)
  have H:a.eval y= .int k n:=dE.1 (hy S a hf)
  refine⟨.int k (if n<m then n else m),by simp [execOp,resolve,invoke,builtin,Builtin.min_,Builtin.min2,Y,H],dE.2 ?_⟩
  congr 1
  rw [Int.min_def]
  split<;>split<;>omega

def kU(P:Program){α β:Type}(args:α->List Ty)(res:β->Ty)(f:α->Option β):Ty where
 p:=fun S v=> ∃fid cap,v= .func (.func fid) #[] cap/\ak P fid=true/\ ∀x y,f x=some y-> ∀w S' vs,SH.le S S' ->lJ w S' ->vG S' (args x) vs->
  Calls P fid (vs.toArray++cap) w fun e w' => ∃v S'',e= .returned v/\jK sJ w S' w' S'' /\lJ w' S'' /\(res y).p S'' v
 mono:=fun h ⟨f,cap,e,hc,k⟩=>⟨f,cap,e,hc,fun x y hxy w S' vs hle=>k x y hxy w S' vs (SH.le_trans h hle)⟩
def PO{N:Fr}{P:Program}{f:α->Option β}{fid:FuncId}(hc:ak P fid=true)(hs: ∀x y,f x=some y->dV P fid (args x) (res y)):aI N G (.func fid) (kU P args res f):=fun S a _=>
 ⟨fid,#[],rfl,hc,fun x y h w S' vs _ hsat hv=>by simpa using hs x y h w S' vs hsat hv⟩
def vG.append: ∀{ts us:List Ty} {vs ws:List Value},vG S ts vs->vG S us ws->vG S (ts++us) (vs++ws)
 |[],_,[],_,_,h=>h
 |_::_,_,_::_,_,⟨Y,H⟩,h=>⟨Y,vG.append H h⟩
def wi{f:α->Option β}{fid:FuncId}{caps:List Operand}{cts:List Ty}(hc:ak E.P fid=true)(hcap:j4 E.N G caps cts)(hs: ∀x y,f x=some y->dV E.P fid (args x++cts) (res y)):cm E O G ⟨dst,.makeFunc (.func fid) #[] caps.toArray,ty,pos,after,g⟩ (kU E.P args res f):=
 .of_pure fun a w S _ _ hf=>by
  refine⟨.func (.func fid) #[] (caps.map a.eval).toArray,by simp [execOp,Instr.makeFunc],fid,_,rfl,hc,fun x y h w' S' vs hle hsat hv=>?_⟩
  have hcv:=(hcap.tys hf).mono hle
  simpa using hs x y h w' S' _ hsat (hv.append hcv)
def kX{f:α->Option β}{fo:Operand}{x:α}{y:β}{xs:List Operand}(hfo:aI E.N G fo (kU E.P args res f))(h:f x=some y)(X:j4 E.N G xs (args x)):
  cm E O G ⟨dst,.call ⟨.value fo,xs.toArray,ats⟩,ty,pos,after,g⟩ (res y):=fun a w S hS _ hF=>by
 obtain⟨fid,cap,e,hc,hs⟩:=hfo S a hF
 have hr:(execOp a.eval ⟨dst,.call ⟨.value fo,xs.toArray,ats⟩,ty,pos,after,g⟩).run E.P w= .ok (.enter fid ((xs.map a.eval).toArray++cap)) w:=by
  simp [execOp,resolve,e,Deferred.ofValue,invoke,hZ hc]
 refine⟨fun c h=>(by cases h),?_⟩
 rw [hr]
 exact(hs x y h w S _ (SH.le_refl _) hS (X.tys hF)).mono fun e w' ⟨v,S',he,Y,H,s⟩=>⟨v,he,v,S',rfl,Y,H,s⟩
end
def dV.of{P:Program}{N:Nat}(hf:P.funcs[f]? =some fn)(W:fn.body=some c)(hN:fn.ntmps=N)(hn:Nat.ble ts.length N=true)(h: ∀w0 S0,CG ⟨P,⟨N,[]⟩,sJ,w0,S0,none⟩ (bodyPost P fn (I2 ⟨P,⟨N,[]⟩,sJ,w0,S0,none⟩ t)) c [] (xL 0 ts)):dV P f ts t:=by
 subst hN
 exact GW hf W (qR hn) h
def nn{α:Type _}{r:α}(h:(none:Option α)=some r):False:=by cases h
def vC{N:Fr}:aI N G (.const (.slice none 0 0)) (K (au none 0 0)):=fun _ _ _=>rfl
def eQ:Nat:=2^64
section
variable{E:En}{ty:TypeId}
def Kk(l:Option Nat)(cap n:Nat)(h:l=none->n=0): ∃a c,au l cap n= .slice a n c:=by
 cases l with
 |none=>rw [h rfl];exact⟨none,0,rfl⟩
 |some b=>exact⟨_,cap,rfl⟩
def iD{r:Rp α}{n:Nat}{t:TypeId}(D:E.P.underlying t=some (.slice e))(hm:ly mm r T l cap xs∈O)(X:aI E.N G x (K (au l cap n)))(hn:n=xs.length:=by rfl):
  cm E O G ⟨dst,.call ⟨.builtin .len,#[x],#[t]⟩,ty,pos,after,g⟩ (tD (rI .i64) (n:Int)):=
 .of_pure fun a w S _ ho hf=>by
  have Y:a.eval x=au l cap n:=X S a hf
  have H:=(ho.mem _ hm).1
  obtain⟨ad,c,s⟩:=Kk l cap n (fun e=>by subst e;obtain⟨_,h4,_⟩:=H;rw [hn];exact h4.1)
  refine⟨.int .i64 n,?_,dE.2 rfl⟩
  simp [execOp,resolve,invoke,builtin,Builtin.len_,iQ D,Y,s,goInt]
end

structure Jv(P:Program){α:Type} [DecidableEq α](t:TypeId)(r:Rp α):Prop where
 guard:P.eqGuardType P.depth t=false
 run: ∀(S:SH) (cs ds:List Value) (x y:α) (aL:Nat) (w:World),r.rc S cs x->r.rc S ds y->(Op.equalIn (aL+20) t (r.val cs) (r.val ds)).run P w= .ok (decide (x=y)) w
section
variable{E:En}{ty:TypeId}
def Bh{P:Program}{t:TypeId}(h:P.eqGuardType P.depth t=false){op:BinOp}{x y:Operand}{u v:Array Value}{w:World}:(eqGuard op t x y (.agg u) (.agg v)).run P w= .ok () w:=by
 unfold eqGuard
 cases op<;>first|rfl|simp [h]
def rl{r:Rp α}(h:r.agg=true)(cs:List Value):r.val cs= .agg cs.toArray:=by unfold Rp.val;rw [bo h]
def Gp [DecidableEq α]{r:Rp α}{m n:α}(he:Jv E.P xt r)(X:aI E.N G x (tD r m))(hy:aI E.N G y (tD r n))(ha:r.agg=true:=by rfl):cm E O G ⟨dst,.binOp .eql xt x y yt,ty,pos,after,g⟩ (tD rB (decide (m=n))):=
 .of_pure fun a w S _ _ hf=>by
  obtain⟨cs,Y,H⟩:=X S a hf
  obtain⟨ds,s,h4⟩:=hy S a hf
  refine⟨.bool (decide (m=n)),?_,iS.2 rfl⟩
  have hr:=he.run S cs ds m n 9980 w H h4
  have V:= @Bh E.P xt he.guard .eql x y cs.toArray ds.toArray w
  rw [rl ha,rl ha]at hr
  simp only [execOp,Y,s,rl ha,sH,V,tS,binOp,Op.equal,Op.maxDepth]
  rw [show(10000:Nat)=9980+20 from rfl,hr]
  simp
def w7 [DecidableEq α]{r:Rp α}{m n:α}(he:Jv E.P xt r)(X:aI E.N G x (tD r m))(hy:aI E.N G y (tD r n))(ha:r.agg=true:=by rfl):cm E O G ⟨dst,.binOp .neq xt x y yt,ty,pos,after,g⟩ (tD rB (!decide (m=n))):=
 .of_pure fun a w S _ _ hf=>by
  obtain⟨cs,Y,H⟩:=X S a hf
  obtain⟨ds,s,h4⟩:=hy S a hf
  refine⟨.bool (!decide (m=n)),?_,iS.2 rfl⟩
  have hr:=he.run S cs ds m n 9980 w H h4
  have V:= @Bh E.P xt he.guard .neq x y cs.toArray ds.toArray w
  rw [rl ha,rl ha]at hr
  simp only [execOp,Y,s,rl ha,sH,V,tS,binOp,Op.equal,Op.maxDepth]
  rw [show(10000:Nat)=9980+20 from rfl,hr]
  simp
end

def qL{base:Nat}{B:Nat->Prop}(h:d9 base B w S O)(k:jK sJ w S w' S'){e:OE}(he:e.p w' S')(hn: ∀b,e.fp b->w.heap.size<=b)(W:base<=w.heap.size:=by first|assumption|exact St.base_le (by assumption)):d9 base B w' S' (e::O):=
 ⟨⟨he,fun b hb' => .inl (xy W (hn b hb'))⟩,fun f hf b hb' hfb=>by
  have:=f.here (d9.mem h f hf).1 b hfb
  have:=hn b hb'
  omega,h.ext0 k⟩
def iX(P:Program)(f:FuncId)(ts:List Ty)(mm:Bool){α:Type}(r:Rp α)(T:TypeId)(xs:List α):Prop:=
 ∀w S vs,lJ w S->vG S ts vs->Calls P f vs.toArray w fun e w' => ∃l cap S',e= .returned (au l cap xs.length)/\jK sJ w S w' S' /\lJ w' S' /\(ly mm r T l cap xs).holds w.heap.size sJ w' S'
def J6{r:Rp α}(h:(ly mm r T l cap xs).holds w.heap.size sJ w' S')(he:jK sJ w S w' S')(hs:lJ w' S'):
  ∃S'',jK sJ w S w' S'' /\lJ w' S'' /\(tD (gE r) xs).p S'' (au l cap xs.length):=by
 have st:St ⟨default,⟨0,[]⟩,sJ,w,S,none⟩ [ly mm r T l cap xs] [] ⟨#[],[]⟩ w' S' :=⟨he,hs,⟨h,fun _ hf=>(by cases hf),trivial⟩,⟨rfl,rfl,fun _ _ h=>(by simp [cn]at h)⟩⟩
 obtain⟨S'',Y,H⟩:=st.settle
 exact⟨S'',Y.ext,Y.sat,H⟩
def iX.spec{P:Program}{r:Rp α}(h:iX P f ts mm r T xs):dV P f ts (tD (gE r) xs):=fun w S vs hs hv=>
 (h w S vs hs hv).mono fun e w' ⟨l,cap,S',he,Y,H,s⟩=>by
  obtain⟨S'',h4,h5,h6⟩:=J6 s Y H
  exact⟨_,S'',he,h4,h5,h6⟩
def Xk(E:En)(mm:Bool){α:Type}(r:Rp α)(T:TypeId)(xs:List α):Ending->World->Prop:=fun e w' => ∃l cap S',e= .returned (au l cap xs.length)/\jK E.B E.w0 E.S0 w' S' /\lJ w' S' /\(ly mm r T l cap xs).holds E.w0.heap.size E.B w' S'
def iX.of{P:Program}{N:Nat}{r:Rp α}(hf:P.funcs[f]? =some fn)(W:fn.body=some c)(hN:fn.ntmps=N)(hn:Nat.ble ts.length N=true)(h: ∀w0 S0,CG ⟨P,⟨N,[]⟩,sJ,w0,S0,none⟩ (bodyPost P fn (Xk ⟨P,⟨N,[]⟩,sJ,w0,S0,none⟩ mm r T xs)) c [] (xL 0 ts)):iX P f ts mm r T xs:=by
 subst hN
 intro w S vs hs hv
 exact ve.1 (callsIn_of_wp (F:=fw none) (n:=0) hf W trivial (h w S _ w S ⟨iP _ _ _,hs,trivial,yC hv _ (qR hn)⟩))
section
variable{E:En}
def mA{P:Program}{N:Nat}{B:Nat->Prop}{w0:World}{S0:SH}{r:Rp α}{n:Nat}(hr:fn.results= #[.tmp k])(hk:cn G k=some (K (au l cap n)))(hn:n=xs.length:=by rfl):
  AT ⟨P,⟨N,[]⟩,B,w0,S0,none⟩ (bodyPost P fn (Xk ⟨P,⟨N,[]⟩,B,w0,S0,none⟩ mm r T xs)) .ret (ly mm r T l cap xs::O) G:=fun a w S st=>by
 subst hn
 have hv:a.tmps.getD k undef=au l cap xs.length:=st.facts.at_ k _ hk
 exact⟨st.facts.defers,_,re P fn k hr _ _,l,cap,S,by rw [hv],st.ext,st.sat,st.own.1⟩
section
variable{ty:TypeId}
def Oc{xs:List Operand}{r:Rp α}{u:Nat->Option Nat->Ty}(hc:ak E.P f=true)(hs:iX E.P f ts mm r T ys)(X:j4 E.N G xs ts)(hd:Nat.blt aL E.N.n=true)(hu: ∀l cap w0 S,(ly mm r T l cap ys).p w0 S->(u cap l).p S (au l cap ys.length))(k: ∀l cap,RG E ops ah rest (ly mm r T l cap ys::O) ((aL,u cap l)::G)):
  RG E ops ah (⟨some aL,.call ⟨.value (.func f),xs.toArray,ats⟩,ty,pos,after,none⟩::rest) O G:= .of rfl fun a w S st=>by
 have hr:(execOp a.eval ⟨some aL,.call ⟨.value (.func f),xs.toArray,ats⟩,ty,pos,after,none⟩).run E.P w= .ok (.enter f (xs.map a.eval).toArray) w:=by
  simp [execOp,resolve,Act.eval,Deferred.ofValue,invoke,hZ hc]
 refine⟨fun c h=>(by cases h),?_⟩
 rw [hr]
 refine(hs w S _ st.sat (X.tys st.facts)).mono fun e w' ⟨l,cap,S',he,Y,H,s⟩=>⟨_,he,?_⟩;refine k l cap _ _ S' ⟨st.ext.step0 Y,H,qL st.own Y s.1 (fun b W=>(s.2 b W).resolve_right id) st.base_le,(st.facts.mono Y.keep).put hd (hu l cap w' S' s.1)⟩
def QV{xs:List Operand}{r:Rp α}(hc:ak E.P f=true)(hs:iX E.P f ts false r T ys)(X:j4 E.N G xs ts)(hd:Nat.blt aL E.N.n=true)(k: ∀l cap,RG E ops ah rest (de r T l cap ys::O) ((aL,K (au l cap ys.length))::G)):
  RG E ops ah (⟨some aL,.call ⟨.value (.func f),xs.toArray,ats⟩,ty,pos,after,none⟩::rest) O G:=Oc (u:=fun cap l=>K (au l cap ys.length)) hc hs X hd (fun _ _ _ _ _=>rfl) k
def pq{r:Rp α}{xs:List Operand}{parts:List (Nat×Operand)}{t:TypeId}{n sz:Nat}{agg:Bool}(D:E.P.underlying t=some (.slice T))(ti:TI E.P T sz bytes agg z)(hsz:r.sz=sz)(h0:Nat.blt 0 sz=true)(hp:parts=xO 0 xs)(hn:n=ys.length)(W:Nat.ble (n*sz) 16777216=true)(X:j4 E.N G xs (ys.map (tD r)))(hd:Nat.blt aL E.N.n=true)(k: ∀l cap,RG E ops ah rest (de r T l cap ys::O) ((aL,K (au l cap ys.length))::G)):
  RG E ops ah (⟨some aL,.buildSlice t n parts.toArray,ty,pos,after,none⟩::rest) O G:= .of rfl fun a w S st=>by
 obtain⟨cs,hc,hr⟩:=vT D ti hsz hn W (X.tys st.facts) w
 subst hsz
 subst hp
 have hb' :=qR W
 have h0' :0<r.sz:=by simpa [tt] using h0
 have hnle:n<=n*r.sz:=Nat.le_mul_of_pos_right n h0'
 have hcl:=jT hc
 obtain⟨he,hs',hno⟩:=ji (w:=w) (.cells cs.toArray T (0,0)) st.sat
 have hrun:(execOp a.eval ⟨some aL,.buildSlice t n (xO 0 xs).toArray,ty,pos,after,none⟩).run E.P w= .ok (.value (.slice (some ⟨w.heap.size,0,none⟩) n n)) (w.alloc (.cells cs.toArray T (0,0))):=by
  simp only [execOp,sH,hr,tS,Sem.run_pure]
 refine⟨fun c h=>(by cases h),?_⟩
 rw [hrun]
 refine k (some w.heap.size) n _ _ S ⟨st.ext.step0 he,hs',qL st.own he ⟨cs,⟨cs.toArray,vN w _,by omega,by simp only [maxLen];omega,by simp [hcl,hn],by simp [<-hcl]⟩,hc,fun b W=>by rw [<-px W];exact hno⟩ (fun b W=>yU (px W)) st.base_le,st.facts.put hd ?_⟩
 ·show _=au _ _ _
  rw [<-hn];rfl
def Jg{r:Rp α}{t:TypeId}(D:E.P.underlying t=some (.slice e))(X:aI E.N G x (tD (gE r) xs))(hd:Nat.blt aL E.N.n=true)(k: ∀b,(b=true->xs=[])->RG E ops ah rest O ((aL,tD rB b)::G)):RG E ops ah (⟨some aL,.binOp .eql t x (.const (.slice none 0 0)) yt,ty,pos,after,none⟩::rest) O G:= .of rfl fun a w S st=>by
 obtain⟨ad,cap,Y,_,_,H⟩:=jw.1 (X S a st.facts)
 have hrun:(execOp a.eval ⟨some aL,.binOp .eql t x (.const (.slice none 0 0)) yt,ty,pos,after,none⟩).run E.P w= .ok (.value (.bool ad.isNone)) w:=by
  have s:(Op.equal t (.slice ad xs.length cap) (.slice none 0 0)).run E.P w= .ok ad.isNone w:=y7 fun aL=>by
   cases ad<;>simp [Op.equalIn,iQ D]
  have hcn:a.eval (.const (.slice none 0 0))= .slice none 0 0:=rfl
  simp [execOp,Y,hcn,eqGuard,binOp,s]
 refine⟨fun c h=>(by cases h),?_⟩
 rw [hrun]
 refine k ad.isNone (fun e=>?_) _ _ S (st.step (iP _ _ _) st.sat hd (iS.2 rfl))
 rcases H with H|⟨b,off,c,T,fr,e1,_⟩
 ·exact H
 ·subst e1;cases e
end
end

def M(b off:Nat):Value:= .pointer (some ⟨b,off,none⟩)
def Z{α:Type}(r:Rp α)(T:TypeId)(b:Nat)(x:α):OE where
 fp:=fun k=>k=b
 p:=fun w S=>S b=none/\ ∃c,w.heap[b]? =some (.cells c T (0,0))/\r.rc S c.toList x
 here:=by
  intro w S h k hk
  subst hk
  obtain⟨Y,c,H,_⟩:=h
  exact(FO.1 H).1
 kept:=by
  intro C w w' S S' h k hC
  obtain⟨Y,c,H,s⟩:=h
  have hlt:=(FO.1 H).1
  exact⟨by rw [k.old b hlt (hC b rfl)];exact Y,c,by rw [k.heap b hlt (hC b rfl)];exact H,r.mono k.keep s⟩
def rV:Rp Value where
 sz:=1
 agg:=false
 rc:=fun _ cs v=>cs=[v]/\v.oneCell' =true
 mono:=fun _ h=>h
 len:=fun h=>by rw [h.1];rfl
 one:=fun h c hc=>by rw [h.1]at hc;simp at hc;subst hc;exact h.2
 sc:=fun _=>rfl
def wQ{u:Value}:(tD rV u).p S v↔v=u/\u.oneCell' =true:=by
 constructor
 ·rintro⟨cs,rfl,Y,H⟩;subst Y;exact⟨rfl,H⟩
 ·rintro⟨rfl,h⟩;exact⟨[v],rfl,rfl,h⟩
def eD{α β:Type}(r:Rp α)(off:Nat)(q:Rp β)(set:α->β->α):Prop:= ∀S cs x ds y,r.rc S cs x->q.rc S ds y->r.rc S (cs.take off++ds++cs.drop (off+q.sz)) (set x y)
section
variable{E:En}{e:Exit}
def St.settleB{r:Rp α}{b:Nat}{x:α}(h:St E (Z r T b x::O) G a w S)(hk:cn G k=some (K (M b 0))): ∃S',St E O ((k,c8 r x)::G) a w S' :=by
 obtain⟨⟨hn,cur,s,h4⟩,_⟩:=h.own.1
 obtain⟨h8,hle,_,_⟩:=yf h rfl s (sj _) hn
 have hv:a.tmps.getD k undef=M b 0:=h.facts.at_ k _ hk
 refine⟨_,h8.cons ⟨b,0,cur,T,(0,0),hv,by simp [SH.set],?_⟩⟩
 have hl:cur.size=r.sz:=by have:=r.len h4;simpa using this
 have:=r.mono hle h4
 rw [z2,tz (by simp [hl])];exact this
def bh{r:Rp α}{b:Nat}{x:α}(k:Nat)(hk:cn G k=some (K (M b 0)))(h:RG E ops ah rest O ((k,c8 r x)::G)):RG E ops ah rest (Z r T b x::O) G:=
 fun a w _ st=>let⟨S',st'⟩:=st.settleB hk;h a w S' st'
def eY{r:Rp α}{b:Nat}{x:α}(k:Nat)(hk:cn G k=some (K (M b 0)))(h:AT E ah e O ((k,c8 r x)::G)):AT E ah e (Z r T b x::O) G:=
 fun a w _ st=>let⟨S',st'⟩:=st.settleB hk;h a w S' st'
section
variable{ty:TypeId}
def bz{r:Rp α}{x:α}{sz:Nat}{agg:Bool}(ti:TI E.P T sz bytes agg z)(X: ∀S,r.rc S z x)(hd:Nat.blt aL E.N.n=true)(k: ∀b,RG E ops ah rest (Z r T b x::O) ((aL,K (M b 0))::G)):RG E ops ah (⟨some aL,.alloc T,ty,pos,after,none⟩::rest) O G:= .of rfl fun a w S st=>by
 obtain⟨zv,hzr,hzc⟩:=ti.zero w
 obtain⟨he,hs',hno⟩:=ji (w:=w) (.cells z.toArray T (0,0)) st.sat
 have hrun:(execOp a.eval ⟨some aL,.alloc T,ty,pos,after,none⟩).run E.P w= .ok (.value (M w.heap.size 0)) (w.alloc (.cells z.toArray T (0,0))):=by
  simp [execOp,Instr.alloc,hzr,newVar,newRow,hzc,M]
 refine⟨fun c h=>(by cases h),?_⟩
 rw [hrun]
 exact k w.heap.size _ _ S ⟨st.ext.step0 he,hs',qL st.own he ⟨hno,z.toArray,vN w _,by simpa using X S⟩ (fun b W=>yU W.symm) st.base_le,st.facts.put hd rfl⟩
def tp{r:Rp α}{v:α}(X:aI E.N G x (tD r v))(hd:Nat.blt aL E.N.n=true)(k: ∀b,RG E ops ah rest (Z r T b v::O) ((aL,K (M b 0))::G)):RG E ops ah (⟨some aL,.box T x,ty,pos,after,none⟩::rest) O G:= .of rfl fun a w S st=>by
 obtain⟨cs,hv,hc⟩:=X S a st.facts
 obtain⟨he,hs',hno⟩:=ji (w:=w) (.cells cs.toArray T (0,0)) st.sat
 have hrun:(execOp a.eval ⟨some aL,.box T x,ty,pos,after,none⟩).run E.P w= .ok (.value (M w.heap.size 0)) (w.alloc (.cells cs.toArray T (0,0))):=by
  simp [execOp,Instr.box,newVar,newRow,hv,tZ hc,M]
 refine⟨fun c h=>(by cases h),?_⟩
 rw [hrun]
 exact k w.heap.size _ _ S ⟨st.ext.step0 he,hs',qL st.own he ⟨hno,cs.toArray,vN w _,by simpa using hc⟩ (fun b W=>yU W.symm) st.base_le,st.facts.put hd rfl⟩
def mN{base:Nat}{B:Nat->Prop}{b:Nat}(hs:lJ w S)(f f' :OE)(h:d9 base B w S (f::O))(hf: ∀k,f.fp k↔k=b)(hf' : ∀k,f'.fp k↔k=b)(V:w'.os=w.os/\w'.tape=w.tape/\w'.output=w.output/\w'.heap.size=w.heap.size/\w.drawn<=w'.drawn)(ho: ∀k,k≠b->w'.heap[k]? =w.heap[k]?)(hp:f'.p w' S)(hno:S b=none):jK (fun k=>k=b) w S w' S/\lJ w' S/\d9 base B w' S (f' ::O):=by
 have hext:jK (fun k=>k=b) w S w' S:=⟨V.1,V.2.1,V.2.2.1,V.2.2.2.2,by omega,fun k _ hk=>ho k hk,SH.le_refl _,fun _ _ _=>rfl⟩
 refine⟨hext,hs.same fun k o hk=>?_,⟨hp,fun k hk=>h.1.2 k ((hf k).2 ((hf' k).1 hk))⟩,fun g hgm k hk=>h.2.1 g hgm k ((hf k).2 ((hf' k).1 hk)),h.2.2.ext hext fun g hgm k hk hkb=>h.2.1 g hgm k ((hf k).2 hkb) hk⟩
 have hne:k≠b:=fun e=>by subst e;rw [hno]at hk;cases hk
 exact ho k hne
def jF{P:Program}{q:Rp α}{sz:Nat}{agg:Bool}(ti:TI P U sz bytes agg z)(hsz:q.sz=sz){ds:List Value}{y:α}(hy:q.rc S ds y){b:Nat}{cur:Array Value}(V:w.heap[b]? =some (.cells cur T (0,0)))(hfit:off+q.sz<=cur.size):
  ∃w',(storeVar U ⟨b,off,none⟩ (q.val ds)).run P w= .ok () w' /\w'.os=w.os/\w'.tape=w.tape/\w'.output=w.output/\(w'.heap.size=w.heap.size/\w.drawn<=w'.drawn)/\w'.heap[b]? =some (.cells (cur.toList.take off++ds++cur.toList.drop (off+q.sz)).toArray T (0,0))/\ ∀k,k≠b->w'.heap[k]? =w.heap[k]? :=by
 have hl:=q.len hy
 have hst:=run_storeCells_at P b off T ds 0 cur w V (by omega) (q.one hy)
 simp only [AU]at hst
 refine⟨w.setRow b (cur.toList.take off++ds++cur.toList.drop (off+ds.length)).toArray,?_,rfl,rfl,rfl,⟨?_,dY _⟩,?_,fun k hk=>setRow_other w b k _ hk⟩
 ·generalize (cur.toList.take off++ds++cur.toList.drop (off+ds.length)).toArray=hx at hst ⊢
  simp only [storeVar,sH,ti.sizeOf,tS,tZ hy,EB,hl,hsz]
  simp only [ne_eq,not_true_eq_false,kQ]
  simpa using hst
 ·simp [World.setRow]
 ·rw [setRow_heap w b cur _ T _ V,<-hl]
def dX{r:Rp α}{set:α->β->α}{x:α}{y:β}{b sz:Nat}{agg:Bool}{p v:Operand}(ti:TI E.P U sz bytes agg z)(hsz:q.sz=sz)(hset:eD r off q set)(hoff:Nat.ble (off+q.sz) r.sz=true)(hp:aI E.N G p (K (M b off)))(hv:aI E.N G v (tD q y))(k:RG E ops ah rest (Z r T b (set x y)::O) G):RG E ops ah (⟨none,.store U p v,ty,pos,after,none⟩::rest) (Z r T b x::O) G:= .of rfl fun a w S st=>by
 have Y:a.eval p=M b off:=hp S a st.facts
 obtain⟨ds,H,s⟩:=hv S a st.facts
 obtain⟨⟨hno,cur,h5,h6⟩,_⟩:=st.own.1
 have hl:=r.len h6
 have hoff' :=qR hoff
 obtain⟨w',hr,e1,e2,e3,e4,e5,e6⟩:=jF ti hsz s h5 (off:=off) (by simp at hl;omega)
 have hrun:(execOp a.eval ⟨none,.store U p v,ty,pos,after,none⟩).run E.P w= .ok .skip w' :=by
  simp [execOp,Y,H,Instr.storeAt,M,Instr.sureAddr,hr]
 refine⟨fun c h=>(by cases h),?_⟩
 rw [hrun]
 obtain⟨g1,g2,g3⟩:=mN (O:=O) st.sat (Z r T b x) (Z r T b (set x y)) st.own (fun _=>rR) (fun _=>rR) ⟨e1,e2,e3,e4.1,e4.2⟩ e6 ⟨hno,_,e5,by simpa using hset S _ _ _ _ h6 s⟩ hno
 exact k _ _ S ⟨st.ext.step g1 (fun c hc=>st.own.1.2 c hc),g2,g3,st.facts⟩
def ax{r:Rp α}:eD r 0 r (fun _ y=>y):=fun S cs x ds y Y H=>by
 have hl:=r.len Y
 simpa [<-hl] using H
end
section
variable{ty:TypeId}
def Eg{sz b o:Nat}{p:Operand}(hf:bF E.P T i=some (off,sz))(h0:Nat.beq sz 0=false)(hp:aI E.N G p (K (M b o))):cm E O G ⟨dst,.fieldAddr T p i,ty,pos,after,g⟩ (K (M b (o+off))):=
 .of_pure fun a w S _ _ hF=>by
  have Y:a.eval p=M b o:=hp S a hF
  obtain⟨fs,f,e1,e2,e3,e4⟩:=E0 hf
  have h0' :sz≠0:=fun e=>by subst e;simp at h0
  refine⟨M b (o+off),?_,rfl⟩
  simp [execOp,Y,M,Instr.fieldAt,iQ e1,e2,Instr.sureAddr,fieldPlace,e4,h0',e3,iN]
def aD{r:Rp α}{get:α->β}{x:α}{b sz:Nat}{agg:Bool}{p:Operand}(ti:TI E.P U sz bytes agg z)(hsz:q.sz=sz)(hag:q.agg=agg)(hget:kP r off q get)(hm:Z r T b x∈O)(hp:aI E.N G p (K (M b off))):
  cm E O G ⟨dst,.load U p,ty,pos,after,g⟩ (tD q (get x)):=
 .of_pure fun a w S _ ho hf=>by
  have Y:a.eval p=M b off:=hp S a hf
  obtain⟨⟨_,cur,h5,h6⟩,_⟩:=ho.mem _ hm
  have h7:=hget S _ _ h6
  refine⟨_,?_,_,rfl,h7⟩
  simp [execOp,Y,M,Instr.loadAt,Instr.sureAddr,kh ti h5 hsz hag h7]
def bj{r:Rp α}:kP r 0 r (fun x=>x):=fun S cs x h=>by
 have hl:=r.len h
 simpa [<-hl] using h
end
end
end Go.Proofs.YtdohlidddcgfjaaGreat

