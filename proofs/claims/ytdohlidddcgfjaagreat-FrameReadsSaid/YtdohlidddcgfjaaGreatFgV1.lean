import Derived.WalkKit
import Derived.Orders
import Derived.Lone
import Derived.RunT
import Derived.Calls
import Derived.RangeFuncIn
import Derived.TacticsIn
import Derived.OrdersIn
import Derived.LoopIn
import Derived.Laws.AppendOwn
import Derived.Deep.Upon
import Derived.Lib.AppendStr
import Derived.IntWalk
set_option linter.all false
namespace Go.Proofs.YtdohlidddcgfjaaGreat
open Go IntKind
def bz:= @Option.bind_some
def bB:= @if_neg
def bM:= @if_pos
def mS:= @decide_eq_true_eq
def nw:= @Bool.and_eq_true
def vK:= @List.getElem?_eq_some_iff
def vp:= @List.getElem?_eq_getElem
def kE:= @Nat.le_refl
def jc:= @Bool.false_eq_true
def jO:= @List.mem_cons_self
def kX:= @List.mem_cons_of_mem
def jl:= @List.length_cons
def jR:= @List.append_assoc
def kW:= @wrap_i64
def nY:= @List.length_append
def mI:= @List.all_eq_true
def vM:= @List.eq_nil_of_length_eq_zero
def mb:= @run_underlying
def nq:= @Option.map_some
def ll:= @List.mem_cons
def t8:= @Nat.eq_of_beq_eq_true
def hX:= @if_false
def t7:= @List.mem_of_getElem?
def pM:= @List.nil_append
def gQ:= @if_true
def vq:= @Nat.le_of_ble_eq_true
def o4:= @Bool.true_and
def mT:= @Nat.zero_le
def vX:= @List.take_append_drop
def Ap:= @List.getElem?_append_right
def pj:= @Nat.lt_or_ge
def yi:= @List.take_of_length_le
def tY:= @Bool.eq_iff_iff
def oJ:= @beq_iff_eq
def uK:= @Option.some.inj
def ta:= @Bool.false_or
def Ce:= @List.drop_eq_getElem_cons
def uH:= @List.drop_drop
def Cd:= @List.getElem?_take_of_lt
def zc:= @List.drop_eq_nil_iff
def uc:= @Bool.not_true
def CL:= @Array.getElem?_replicate
def vW:= @List.append_nil
def Ds:= @List.getElem?_append_left
def zb:= @List.getElem?_drop
def xq:= @wrap_u8
def GM:= @List.take_append_of_le_length
def yh:= @decide_eq_false
def yg:= @List.length_nil
def Ax:= @Nat.lt_of_lt_of_le
def yf:= @List.drop_zero
def Ao:= @List.length_drop
def EO:= @List.drop_eq_nil_of_le
def Dr:= @Nat.mul_le_mul_right
def Cc:= @Result.andThen_ok
def Cb:= @Int.toNat_natCast
def An:= @List.mem_append
def za:= @Bool.and_assoc
def Ca:= @List.length_take
def Aw:= @Nat.min_eq_left
def zt74:= @List.length_flatMap
def KM:= @Array.getD_eq_getD_getElem?
def yA:= @Nat.zero_add
def Dq:= @Option.bind_assoc
def KL:= @Array.getElem?_eq_some_iff
def EN:= @List.mem_singleton
def CK:= @Bool.or_eq_true
def Dp:= @Bool.not_eq_true
def Do:= @decide_eq_decide
def IV:= @List.drop_of_length_le
def Am:= @Sem.run_bind
def ye:= @Nat.blt_eq
def CJ:= @List.take_take
def y9:= @Prod.mk.inj
def EM:= @wrap_u64
def B9:= @getD_set_true
def EL:= @Nat.lt_succ_self
def EK:= @List.take_length
def Av:= @Nat.add_mul
def Dn:= @List.cons.inj
def F3:= @List.length_set
def GL:= @List.cons_append
def GK:= @List.any_eq_true
def IU:= @Bool.eq_false_iff
def Cn:= @Bool.not_eq_true'
def Ab:= @Bool.not_false
def qW:= @Iff.rfl
def FB:= @Bool.and_eq_true_iff
def JB:= @Int.fdiv_eq_ediv_of_nonneg
def Dx:= @Function.comp_def
def Fz:= @Array.length_toList
def GT:= @List.getElem?_eq_none
def MG:= @List.drop_append_of_le_length
def Aa:= @Nat.sub_self
def z8:= @Nat.le_trans
def Cl:= @List.drop_take
def GS:= @List.mem_append_left
def Ck:= @heap_alloc_new
def JA:= @List.getElem?_cons_zero
def Fy:= @List.flatMap_cons
def wI:= @mem_ready
def Dw:= @Option.bind_map
def z7:= @getD_set_ne
def Az:= @Bool.true_or
def Dv:= @List.all_cons
def Fx:= @decide_eq_true
def GP:= @wrap_u32
def Ay:= @bne_iff_ne
def Du:= @Nat.add_zero
def MF:= @List.length_replicate
def ME:= @List.contains_iff_mem
def Fw:= @Bool.or_false
def Jz:= @List.size_toArray
def Dt:= @Nat.mul_one
def UV:= @List.take_succ_eq_append_getElem
def Fv:= @Bool.or_true
def Rs:= @Nat.add_right_cancel_iff
def Rr:= @Option.isSome_iff_exists
def Jy:= @List.getElem_mem
def Fu:= @Nat.le_of_eq
def MD:= @List.map_congr_left
def Rq:= @decide_eq_false_iff_not
def Jx:= @List.length_map
def Ro:= @Array.toList_replicate
def Rn:= @Option.map_eq_some_iff
def Rm:= @MapKept.run_getObj_map
def MC:= @List.getElem?_map
def Rl:= @List.dropLast_eq_take
def Rk:= @List.singleton_append
def Rj:= @List.countP_replicate
def GO:= @List.mem_map
def Ri:= @MapKept.run_checkKey
def MB:= @List.mem_reverse
def Jw:= @List.map_cons
def MA:Obj->Obj->Prop
 | .cells c E fr,o' => ∃d:List Value,o' = .cells (c.toList++d).toArray E fr
 |o,o' =>o' =o
variable{o:Oper}
def wZ(o:Obj):MA o o:=by
 cases o<;>first|rfl|exact⟨[],by simp⟩
variable{c:Code}{cells:List Value}{d:Nat}{fr:Nat×Nat}{k:Nat}{o' :Obj}
def J9{o o'' :Obj}(h:MA o o')(k:MA o' o''):MA o o'' :=by
 cases o with
 |cells c E fr=>
  obtain⟨d,rfl⟩:=h;obtain⟨d',rfl⟩:=k;exact⟨d++d',by simp⟩
 |_=>cases h;exact k
variable{off:Nat}
def HH{c:Array Value}{E:TypeId}(h:MA (.cells c E fr) o'){n:Nat}(hl:((c.toList.drop off).take n).length=n):
  ∃c',o' = .cells c' E fr/\(c'.toList.drop off).take n=(c.toList.drop off).take n:=by
 obtain⟨d,rfl⟩:=h;refine⟨_,rfl,?_⟩;by_cases hn:n=0
 ·subst hn;simp
 simp only [Ca,Ao]at hl;rw [MG (by omega),GM (by simp only [Ao];omega)]
abbrev SH:=Nat->Option Obj
def SH.le(S S' :SH):Prop:= ∀b o,S b=some o-> ∃o',S' b=some o' /\MA o o'
variable{S:SH}
def SH.le_refl(S:SH):SH.le S S:=fun _ o h=>⟨o,h,wZ o⟩
variable{S' S'' :SH}{b:Bool}{e:TypeId}
def SH.le_trans(h:SH.le S S')(k:SH.le S' S''):SH.le S S'' :=fun b o e=>let⟨o',H,W⟩:=h b o e;let⟨o'',h3,h4⟩:=k b o' H;⟨o'',h3,J9 W h4⟩
structure Ty where
 p:SH->Value->Prop
 mono: ∀{S S' :SH} {v:Value},SH.le S S' ->p S v->p S' v
structure Rp(α:Type) where
 sz:Nat
 agg:Bool
 rc:SH->List Value->α->Prop
 mono: ∀{S S' :SH} {cs:List Value} {x:α},SH.le S S' ->rc S cs x->rc S' cs x
 len: ∀{S:SH} {cs:List Value} {x:α},rc S cs x->cs.length=sz
 one: ∀{S:SH} {cs:List Value} {x:α},rc S cs x-> ∀c∈cs,c.oneCell' =true
 sc:agg=false->sz=1
def Rp.val{α:Type}(r:Rp α)(cs:List Value):Value:=if r.agg then .agg cs.toArray else cs.headD undef
def tD{α:Type}(r:Rp α)(x:α):Ty where
 p:=fun S v=> ∃cs,v=r.val cs/\r.rc S cs x
 mono:=fun h ⟨cs,e,k⟩=>⟨cs,e,r.mono h k⟩
def ER:Ty where
 p:=fun _ _=>True
 mono:=fun _ _=>trivial
def Q(u:Value):Ty where
 p:=fun _ v=>v=u
 mono:=fun _ h=>h
def rI(k:IntKind):Rp Int where
 sz:=1
 agg:=false
 rc:=fun _ cs x=>cs=[.int k x]
 mono:=fun _ h=>h
 len:=fun h=>by rw [h];rfl
 one:=fun h c hc=>by subst h;simp at hc;subst hc;rfl
 sc:=fun _=>rfl
def rB:Rp Bool where
 sz:=1
 agg:=false
 rc:=fun _ cs x=>cs=[.bool x]
 mono:=fun _ h=>h
 len:=fun h=>by rw [h];rfl
 one:=fun h c hc=>by subst h;simp at hc;subst hc;rfl
 sc:=fun _=>rfl
abbrev Xo:=List UInt8
def rS:Rp Xo where
 sz:=1
 agg:=false
 rc:=fun _ cs x=>cs=[.string ⟨x.toArray⟩]
 mono:=fun _ h=>h
 len:=fun h=>by rw [h];rfl
 one:=fun h c hc=>by subst h;simp at hc;subst hc;rfl
 sc:=fun _=>rfl
variable{cs:List Value}{v:Value}
def fH{k:IntKind}{n:Int}:(tD (rI k) n).p S v↔v= .int k n:=by
 constructor
 ·rintro⟨cs,rfl,h⟩;have h' :cs=[.int k n]:=h;subst h';rfl
 ·rintro rfl;exact⟨[.int k n],rfl,rfl⟩
def ko:(tD rB b).p S v↔v= .bool b:=by
 constructor
 ·rintro⟨cs,rfl,h⟩;have h' :cs=[.bool b]:=h;subst h';rfl
 ·rintro rfl;exact⟨[.bool b],rfl,rfl⟩
variable{bx:Xo}
def EQ:(tD rS bx).p S v↔v= .string ⟨bx.toArray⟩:=by
 constructor
 ·rintro⟨cs,rfl,h⟩;have h' :cs=[.string ⟨bx.toArray⟩]:=h;subst h';rfl
 ·rintro rfl;exact⟨[.string ⟨bx.toArray⟩],rfl,rfl⟩
def uI{α:Type}(r:Rp α)(S:SH):List Value->List α->Prop
 |cs,[]=>cs=[]
 |cs,x::xs=> ∃a b,cs=a++b/\r.rc S a x/\uI r S b xs
variable{a:Act}{α:Type}{xs:List α}
def vA{α:Type}{r:Rp α}{S S' :SH}(h:SH.le S S'): ∀{xs:List α} {cs:List Value},uI r S cs xs->uI r S' cs xs
 |[],_,k=>k
 |_::_,_,⟨a,b,e,H,W⟩=>⟨a,b,e,r.mono h H,vA h W⟩
variable{x:Operand}
def mv{α:Type}{r:Rp α}{S:SH}: ∀{xs:List α} {cs:List Value},uI r S cs xs->cs.length=xs.length*r.sz
 |[],_,k=>by rw [show _=_ from k];simp
 |x::xs,_,⟨a,b,e,H,W⟩=>by rw [e,nY,r.len H,mv W,jl,Av];omega
def BH{α:Type}{r:Rp α}{S:SH}: ∀{xs:List α} {cs:List Value},uI r S cs xs-> ∀c∈cs,c.oneCell' =true
 |[],_,k,c,hc=>by rw [show _=_ from k]at hc;cases hc
 |x::xs,_,⟨a,b,e,H,W⟩,c,hc=>by
  rw [e]at hc;rcases An.1 hc with h|h
  ·exact r.one H c h
  ·exact BH W c h
variable{ys:List α}
def uU{α:Type}{r:Rp α}{S:SH}: ∀{xs ys:List α} {cs ds:List Value},uI r S cs xs->uI r S ds ys->uI r S (cs++ds) (xs++ys)
 |[],_,_,_,k,h=>by rw [show _=_ from k];exact h
 |_::_,_,_,_,⟨a,b,e,H,W⟩,h=>⟨a,_,by rw [e,jR],H,uU W h⟩
def tI{α:Type}{r:Rp α}{S:SH}: ∀{xs ys:List α} {cs:List Value},uI r S cs (xs++ys)->
  uI r S (cs.take (xs.length*r.sz)) xs/\uI r S (cs.drop (xs.length*r.sz)) ys
 |[],_,_,k=>by simp [uI];exact k
 |x::xs,ys,cs,⟨a,b,e,H,W⟩=>by
  have hl:=r.len H;have ih:=tI W;have e1:(x::xs).length*r.sz=a.length+xs.length*r.sz:=by rw [hl,jl,Av];omega
  rw [e,e1,List.take_length_add_append,List.drop_length_add_append];exact⟨⟨a,_,rfl,H,ih.1⟩,ih.2⟩
def PK{r:Rp α}{x:α}:uI r S cs [x]↔r.rc S cs x:=by
 constructor
 ·rintro⟨a,b,rfl,h,V⟩;rw [show b=[]from V,vW];exact h
 ·intro h;exact⟨cs,[],by simp,h,rfl⟩
variable{i:Nat}
def DW{r:Rp α}(h:uI r S cs xs){x:α}(K:xs[i]? =some x):
  r.rc S ((cs.drop (i*r.sz)).take r.sz) x:=by
 have hi:i<xs.length:=(vK.1 K).1;have e:xs=xs.take i++(x::xs.drop (i+1)):=by
  have:=vK.1 K;rw [<-this.2,<-Ce hi,vX]
 have hl:(xs.take i).length=i:=by simp;omega
 rw [e]at h;have W:=(tI h).2;rw [hl]at W;obtain⟨a,b,e2,h3,_⟩:=W;rw [e2,<-r.len h3,List.take_left];exact h3
def JS{α:Type}(r:Rp α)(S:SH)(a:Option Addr)(xs:List α):Prop:=
 xs=[]\/ ∃b off c E fr,a=some ⟨b,off,none⟩/\S b=some (.cells c E fr)/\uI r S ((c.toList.drop off).take (xs.length*r.sz)) xs
def gE{α:Type}(r:Rp α):Rp (List α) where
 sz:=1
 agg:=false
 rc:=fun S cs xs=> ∃a cap,cs=[.slice a xs.length cap]/\xs.length<=cap/\cap<=maxLen/\JS r S a xs
 mono:=fun h ⟨a,cap,e,H,W,h3⟩=>⟨a,cap,e,H,W,h3.imp id fun⟨b,off,c,E,fr,e1,e2,e3⟩=>by
  obtain⟨o',h4,h5⟩:=h _ _ e2;obtain⟨c',rfl,h6⟩:=HH h5 (mv e3);exact⟨b,off,c',E,fr,e1,h4,by rw [h6];exact vA h e3⟩⟩
 len:=fun⟨a,cap,e,_⟩=>by rw [e];rfl
 one:=fun⟨a,cap,e,_⟩ c hc=>by rw [e]at hc;simp at hc;subst hc;rfl
 sc:=fun _=>rfl
variable{cap:Nat}
def ku{r:Rp α}:(tD (gE r) xs).p S v↔ ∃a cap,v= .slice a xs.length cap/\xs.length<=cap/\cap<=maxLen/\JS r S a xs:=by
 constructor
 ·rintro⟨cs,rfl,a,cap,rfl,h⟩;exact⟨a,cap,rfl,h⟩
 ·rintro⟨a,cap,rfl,h⟩;exact⟨_,rfl,a,cap,rfl,h⟩
def K0{r:Rp α}:(tD (gE r) []).p S (.slice none 0 0):=ku.2 ⟨none,0,rfl,kE _,mT _,.inl rfl⟩
def da{α:Type}(r:Rp α)(x:α):Ty where
 p:=fun S v=> ∃b off c E fr,v= .pointer (some ⟨b,off,none⟩)/\S b=some (.cells c E fr)/\r.rc S ((c.toList.drop off).take r.sz) x
 mono:=fun h ⟨b,off,c,E,fr,e1,e2,e3⟩=>by
  obtain⟨o',h4,h5⟩:=h _ _ e2;obtain⟨c',rfl,h6⟩:=HH h5 (r.len e3);exact⟨b,off,c',E,fr,e1,h4,by rw [h6];exact r.mono h e3⟩
def ads:List (Nat×List Value):=[]
def adg(w:World):Prop:=True
structure oF(w:World)(S:SH):Prop where
 at_: ∀b o,S b=some o-> ∃o',w.heap[b]? =some o' /\MA o o'
 gl: ∀p∈ads,∃c T fr,S p.1=some (.cells c T fr)/\c.toList.take p.2.length=p.2
 tb: ∀w' :World,(∀b o,S b=some o-> ∃o',w'.heap[b]? =some o' /\MA o o')->adg w'
instance{w:World}{S:SH}:CoeFun (oF w S) (fun _=> ∀b o,S b=some o-> ∃o',w.heap[b]? =some o' /\MA o o'):=⟨oF.at_⟩
variable{w:World}
def oF.lt(h:oF w S){b:Nat}{o:Obj}(k:S b=some o):b<w.heap.size:=let⟨_,H,_⟩:=h b o k;(KL.1 H).1
def oF.part(h:oF w S){b:Nat}{c:Array Value}{E:TypeId}(k:S b=some (.cells c E fr)){n:Nat}(hl:((c.toList.drop off).take n).length=n):
  ∃c',w.heap[b]? =some (.cells c' E fr)/\(c'.toList.drop off).take n=(c.toList.drop off).take n:=by
 obtain⟨o',H,W⟩:=h b _ k;obtain⟨c',rfl,h3⟩:=HH W hl;exact⟨c',H,h3⟩
variable{w' :World}
def oF.same(h:oF w S)(k: ∀b o,S b=some o->w'.heap[b]? =w.heap[b]?):oF w' S:=⟨fun b o e=>by rw [k b o e];exact h b o e,h.gl,h.tb⟩
def xM:Nat->Prop:=fun _=>False
structure mi(B:Nat->Prop)(w:World)(S:SH)(w' :World)(S' :SH):Prop where
 os:w'.os=w.os
 tape:w'.tape=w.tape
 output:w'.output=w.output
 drawn:w.drawn<=w'.drawn
 size:w.heap.size<=w'.heap.size
 heap: ∀k,k<w.heap.size-> ¬B k->w'.heap[k]? =w.heap[k]?
 keep:SH.le S S'
 old: ∀k,k<w.heap.size-> ¬B k->S' k=S k
def mi.refl(B:Nat->Prop)(w:World)(S:SH):mi B w S w S:=⟨rfl,rfl,rfl,kE _,kE _,fun _ _ _=>rfl,SH.le_refl _,fun _ _ _=>rfl⟩
variable{w'' :World}
def mi.trans{B:Nat->Prop}(h:mi B w S w' S')(k:mi B w' S' w'' S''):mi B w S w'' S'' :=
 ⟨k.os.trans h.os,k.tape.trans h.tape,k.output.trans h.output,z8 h.drawn k.drawn,z8 h.size k.size,
  fun i hi V=>(k.heap i (Ax hi h.size) V).trans (h.heap i hi V),SH.le_trans h.keep k.keep,
  fun i hi V=>(k.old i (Ax hi h.size) V).trans (h.old i hi V)⟩
variable{C:Nat->Prop}
def mi.step{B:Nat->Prop}(h:mi B w S w' S')(k:mi C w' S' w'' S'')(hC: ∀b,C b->w.heap.size<=b\/B b):mi B w S w'' S'' :=
 ⟨k.os.trans h.os,k.tape.trans h.tape,k.output.trans h.output,z8 h.drawn k.drawn,z8 h.size k.size,
  fun i hi V=>(k.heap i (Ax hi h.size) (fun hc=>(hC i hc).elim (fun h=>by omega) V)).trans (h.heap i hi V),SH.le_trans h.keep k.keep,
  fun i hi V=>(k.old i (Ax hi h.size) (fun hc=>(hC i hc).elim (fun h=>by omega) V)).trans (h.old i hi V)⟩
def mi.more{B:Nat->Prop}(h:mi B w S w' S')(k: ∀b,B b->C b):mi C w S w' S' :=
 ⟨h.os,h.tape,h.output,h.drawn,h.size,fun i hi V=>h.heap i hi (fun h=>V (k i h)),h.keep,fun i hi V=>h.old i hi (fun h=>V (k i h))⟩
def mi.step0{B:Nat->Prop}(h:mi B w S w' S')(k:mi xM w' S' w'' S''):mi B w S w'' S'' :=h.step k fun _ V=>V.elim
structure OE where
 fp:Nat->Prop
 p:World->SH->Prop
 here: ∀{w S},p w S-> ∀k,fp k->k<w.heap.size
 kept: ∀{C w w' S S'},p w S->mi C w S w' S' ->(∀k,fp k-> ¬C k)->p w' S'
def OE.holds(e:OE)(base:Nat)(B:Nat->Prop)(w:World)(S:SH):Prop:=e.p w S/\ ∀k,e.fp k->base<=k\/B k
def OE.apart(e f:OE):Prop:= ∀b,e.fp b-> ¬f.fp b
def gm(base:Nat)(B:Nat->Prop)(w:World)(S:SH):List OE->Prop
 |[]=>True
 |e::aO=>e.holds base B w S/\(∀f∈aO,e.apart f)/\gm base B w S aO
def Mr{e:OE}{base:Nat}{B:Nat->Prop}(h:e.holds base B w S)(k:mi C w S w' S')(hC: ∀b,e.fp b-> ¬C b):e.holds base B w' S' :=⟨e.kept h.1 k hC,h.2⟩
variable{aO:List OE}{f:FuncId}
def gm.ext{base:Nat}{B:Nat->Prop}(k:mi C w S w' S'): ∀{aO:List OE},gm base B w S aO->(∀e∈aO,∀b,e.fp b-> ¬C b)->gm base B w' S' aO
 |[],_,_=>trivial
 |e::_,⟨H,W,h3⟩,hC=>⟨Mr H k (hC e (jO ..)),W,gm.ext k h3 fun f hf=>hC f (kX _ hf)⟩
def gm.ext0{base:Nat}{B:Nat->Prop}(k:mi xM w S w' S')(h:gm base B w S aO):gm base B w' S' aO:=
 h.ext k fun _ _ _ _ V=>V
def gm.mem{base:Nat}{B:Nat->Prop}: ∀{aO:List OE},gm base B w S aO-> ∀e∈aO,e.holds base B w S
 |_::_,⟨H,_,_⟩,_,.head _=>H
 |_::_,⟨_,_,h3⟩,_,.tail _ hm=>gm.mem h3 _ hm
abbrev ou:=List (Nat×Ty)
def cX:ou->Nat->Option Ty
 |[],_=>none
 |(k,t)::G,j=>bif Nat.beq k j then some t else cX G j
structure Fr where
 n:Nat
 ds:List Deferred
structure cD(N:Fr)(S:SH)(a:Act)(G:ou):Prop where
 size:a.tmps.size=N.n
 defers:a.defers=N.ds
 at_: ∀k t,cX G k=some t->t.p S (a.tmps.getD k undef)
variable{G:ou}{j:Nat}{t:Ty}
def cD.mono{N:Fr}(h:cD N S a G)(k:SH.le S S'):cD N S' a G:=⟨h.size,h.defers,fun j t e=>t.mono k (h.at_ j t e)⟩
def cD.sub{N:Fr}{G' :ou}(h:cD N S a G)(k: ∀j t,cX G' j=some t->cX G j=some t):cD N S a G' :=⟨h.size,h.defers,fun j t e=>h.at_ j t (k j t e)⟩
variable{u:OE}
def cD.put{N:Fr}(h:cD N S a G)(hd:Nat.blt d N.n=true)(hv:t.p S v):cD N S (a.put (some d) v) ((d,t)::G):=by
 have hd' :d<N.n:=by simpa [ye] using hd
 refine⟨by simp [Act.put,h.size],h.defers,fun j u e=>?_⟩;unfold cX at e;by_cases hj:d=j
 ·subst hj;have e' :t=u:=by simpa using e
  rw [e']at hv;simp [Act.put,KM,h.size,hd',hv]
 ·have V:Nat.beq d j=false:=by cases hh:Nat.beq d j with
   |false=>rfl
   |true=>exact absurd (t8 hh) hj
  rw [V]at e;have:=h.at_ j u e;simpa [Act.put,KM,Array.getElem?_setIfInBounds,hj] using this
def Tf:ou->ou->Prop
 |[],_=>True
 |(k,t)::G',G=>cX G k=some t/\Tf G' G
def JQ: ∀{G' G:ou},Tf G' G-> ∀j t,cX G' j=some t->cX G j=some t
 |(k,t)::G',G,⟨H,W⟩,j,u,e=>by
  unfold cX at e;by_cases V:Nat.beq k j=true
  ·rw [V]at e;have:=t8 V;subst this;simp only [cond_true]at e;rw [<-e];exact H
  ·rw [Dp]at V;rw [V]at e;exact JQ W j u e
def bk(N:Fr)(G:ou)(x:Operand)(t:Ty):Prop:= ∀S a,cD N S a G->t.p S (a.eval x)
def D{N:Fr}(h:cX G k=some t):bk N G (.tmp k) t:=fun _ _ hF=>hF.at_ k t h
def hI{N:Fr}{k:IntKind}{n:Int}:bk N G (.const (.int k n)) (tD (rI k) n):=fun _ _ _=>fH.2 rfl
def hB{N:Fr}:bk N G (.const (.bool b)) (tD rB b):=fun _ _ _=>ko.2 rfl
def hS{N:Fr}{bx:Array UInt8}:bk N G (.const (.string ⟨bx⟩)) (tD rS bx.toList):=fun _ _ _=>EQ.2 rfl
def Wc{N:Fr}{r:Rp α}:bk N G (.const (.slice none 0 0)) (tD (gE r) []):=fun _ _ _=>K0
def hV{N:Fr}:bk N G (.const v) (Q v):=fun _ _ _=>rfl
section
variable{P:Program}
end
def fw(r:Option Nat):Fence:={fn:=fun _=>True,depth:=none,alive:=false,round:=r}
variable{args:α->List Ty}
def zX{r:Option Nat}{n:Nat}{P:Program}{args:Array Value}{R:Ending->World->Prop}:CallsIn (fw r) n P f args w R↔Calls P f args w R:=callsIn_wide
def Og{r:Option Nat}{n:Nat}:(fw r).depth.isSome=true->1<=n:=fun h=>by cases h
structure En where
 P:Program
 N:Fr
 B:Nat->Prop
 w0:World
 S0:SH
 r:Option Nat
def En.base(E:En):Nat:=E.w0.heap.size
def opQ(P:Program)(o:Oper)(a:Act)(hx:Act->World->Prop):Result Next->Prop
 | .ok (.value v) w' =>hx (a.put o.dst v) w'
 | .ok .skip w' =>hx (a.put o.dst undef) w'
 | .ok (.enter f args) w' =>Calls P f args w' fun e w'' => ∃v,e= .returned v/\hx (a.put o.dst v) w''
 | .ok (.round l f tmps assign body) w' =>RoundIn (fw none) 0 P l f tmps assign body w' fun e w'' => ∃v,e= .returned v/\hx (a.put o.dst v) w''
 |_=>False
def NQ(P:Program)(o:Oper)(a:Act)(w:World)(hx:Act->World->Prop):Prop:=(∀c,o.op≠ .defer c)/\opQ P o a hx ((execOp a.eval o).run P w)
variable{l:Option Nat}
def PH{r:Option Nat}{n:Nat}{P:Program}{l:Nat}{tmps:Array Value}{assign body:Code}{R:Ending->World->Prop}(h:RoundIn (fw none) 0 P l f tmps assign body w R):RoundIn (fw r) n P l f tmps assign body w R:=
 ⟨trivial,fun c cs _=>h.2 c cs (fun _ hd=>by cases hd)⟩
variable{hx K' :Act->World->Prop}
def VG{P:Program}(hK: ∀a w,hx a w->K' a w){r:Result Next}(h:opQ P o a hx r):opQ P o a K' r:=by
 cases r with
 |ok n w=>
  cases n<;>simp only [opQ]at h ⊢
  case value=>exact hK _ _ h
  case skip=>exact hK _ _ h
  case enter f args=>exact h.mono fun e w' ⟨v,he,hk⟩=>⟨v,he,hK _ _ hk⟩
  case round l f tmps assign body=>exact h.mono fun e w' ⟨v,he,hk⟩=>⟨v,he,hK _ _ hk⟩
 |halt x w=>simp only [opQ]at h
def qn{P:Program}(hK: ∀a w,hx a w->K' a w)(h:NQ P o a w hx):NQ P o a w K' :=⟨h.1,VG hK h.2⟩
variable{tV:Exit->Act->World->Prop}{β:Type}{res:β->Ty}
def nK{P:Program}{r:Option Nat}(hK: ∀a w,hx a w->K' a w)(h:NQ P o a w hx):o.wpIn (fw r) 0 P a w K' tV:=by
 obtain⟨hd,h⟩:=h;refine⟨fun _ _=>trivial,?_⟩;rw [Oper.semAt_eq _ _ _ hd];generalize (execOp a.eval o).run P w=res at h
 cases res with
 |ok n w=>
  cases n<;>simp only [opQ]at h<;>simp only [Oper.uponIn]
  case value=>exact hK _ _ h
  case skip=>exact hK _ _ h
  case enter f args=>exact⟨Og,zX.2 (h.mono fun e w' ⟨v,he,hk⟩=>by subst he;exact hK _ _ hk)⟩
  case round l f tmps assign body=>exact⟨Og,(PH h).mono fun e w' ⟨v,he,hk⟩=>by subst he;exact hK _ _ hk⟩
 |halt x w=>simp only [opQ]at h
def dw(E:En)(aO:List OE)(G:ou)(o:Oper)(t:Ty):Prop:=
 ∀a w S,oF w S->gm E.base E.B w S aO->cD E.N S a G->
  NQ E.P o a w (fun a' w' => ∃v S',a' =a.put o.dst v/\mi xM w S w' S' /\oF w' S' /\t.p S' v)
structure St(E:En)(aO:List OE)(G:ou)(a:Act)(w:World)(S:SH):Prop where
 ext:mi E.B E.w0 E.S0 w S
 sat:oF w S
 own:gm E.base E.B w S aO
 facts:cD E.N S a G
def RG(E:En)(ops:Array Oper)(tV:Exit->Act->World->Prop)(l:List Oper)(aO:List OE)(G:ou):Prop:= ∀a w S,St E aO G a w S->wpListIn (fw E.r) 0 E.P ops tV l a w
def CG(E:En)(tV:Exit->Act->World->Prop)(c:Code)(aO:List OE)(G:ou):Prop:= ∀a w S,St E aO G a w S->c.wpIn (fw E.r) 0 E.P tV a w
def AT(E:En)(tV:Exit->Act->World->Prop)(e:Exit)(aO:List OE)(G:ou):Prop:= ∀a w S,St E aO G a w S->tV e a w
variable{after:Array Edge}{fn:Func}{ops:Array Oper}{pos:String}{ts:List Ty}{y:Operand}
section
variable{E:En}{G' :ou}{l:List Oper}
def St.step(h:St E aO G a w S)(k:mi xM w S w' S')(hs:oF w' S')(hd:Nat.blt d E.N.n=true)(hv:t.p S' v):
  St E aO ((d,t)::G) (a.put (some d) v) w' S' :=
 ⟨h.ext.step0 k,hs,h.own.ext0 k,(h.facts.mono k.keep).put hd hv⟩
def St.sub(h:St E aO G a w S)(k:Tf G' G):St E aO G' a w S:=⟨h.ext,h.sat,h.own,h.facts.sub (JQ k)⟩
def RG.of(Y:o.guard=none)(h: ∀a w S,St E aO G a w S->NQ E.P o a w (fun a' w' =>wpListIn (fw E.r) 0 E.P ops tV l a' w')):RG E ops tV (o::l) aO G:=fun a w S st=>
 wpListIn_plain Y fun _ hK=>nK hK (h a w S st)
def OQ{op:Op}{ty:TypeId}(h:dw E aO G ⟨some d,op,ty,pos,after,none⟩ t)(hd:Nat.blt d E.N.n=true)(k:RG E ops tV l aO ((d,t)::G)):
  RG E ops tV (⟨some d,op,ty,pos,after,none⟩::l) aO G:= .of rfl fun a w S st=>
 qn (fun a' w' ⟨_,_,ha,he,hs,hv⟩=>by subst ha;exact k _ _ _ (st.step he hs hd hv)) (h a w S st.sat st.own st.facts)
def aJ(h:AT E tV .normal aO G):RG E ops tV [] aO G:=fun a w S st=>h a w S st
def ai{id:Nat}{l:List Oper}(h:RG E l.toArray tV l aO G):CG E tV (.region id l.toArray false) aO G:=fun a w S st=>wpIn_region_lit (h a w S st)
def aS{x y:Code}(h:CG E (Exit.then (y.wpIn (fw E.r) 0 E.P tV) tV) x aO G):CG E tV (.seq x y) aO G:=fun a w S st=>wpIn_seq (h a w S st)
def an{y:Code}(h:CG E tV y aO G):AT E (Exit.then (y.wpIn (fw E.r) 0 E.P tV) tV) .normal aO G:=h
def aW(h:AT E tV .normal aO G):CG E tV .skip aO G:=fun a w S st=>wpIn_skip (h a w S st)
def cL{id:Nat}(h:AT E tV (.exit id) aO G):CG E tV (.exit id) aO G:=fun a w S st=>wpIn_exit (h a w S st)
def qH(h:AT E tV .ret aO G):CG E tV .ret aO G:=fun a w S st=>wpIn_ret (h a w S st)
def bE{e:Exit}(h:AT E tV e aO G')(k:Tf G' G):AT E tV e aO G:=fun a w S st=>h a w S (st.sub k)
def uG{c:Operand}{x y:Code}(V:bk E.N G c (tD rB b))(K:b=true->CG E tV x aO G)(hy:b=false->CG E tV y aO G):CG E tV (.cond c x y) aO G:=fun a w S st=>by
 have hv:a.eval c= .bool b:=ko.1 (V S a st.facts);refine wpIn_cond hv ?_
 cases b with
 |true=>exact K rfl a w S st
 |false=>exact hy rfl a w S st
def ak{id:Nat}(h:CG E (Exit.inBlock id tV) c aO G):CG E tV (.block id c) aO G:=fun a w S st=>wpIn_block (h a w S st)
def A8(r:Option Nat)(P:Program)(c:Code)(tV:Exit->Act->World->Prop)(a:Act)(w:World):Prop:=
 ∀(b:Frame) (k:List Item) (cs:List Frame),b.roundOf=r-> ∃e a' w',tV e a' w' /\ArrivesIn (Machine.fenced P (fw r)) P (lone (b.atR a (.code c:: .inLoop c::k)) cs w) b k cs e a' w'
def R5{r:Option Nat}{n:Nat}:(fw r).room n:=fun _ hd=>by cases hd
def KP{r:Option Nat}{P:Program}{tV:Exit->Act->World->Prop}(h:A8 r P c tV a w):(Code.loop c).wpIn (fw r) 0 P tV a w:=fun b k cs hro V hr=>
 let⟨e,a',w',hq,harr⟩:=h b k cs hro
 ⟨e,a',w',hq,.of_steps (.one (fenced_calm V hr rfl) stepR_loop) harr⟩
def Jh{r:Option Nat}{P:Program}{tV:Exit->Act->World->Prop}(h:c.wpIn (fw r) 0 P (Exit.then (A8 r P c tV) tV) a w):A8 r P c tV a w:=by
 intro b k cs hro;obtain⟨e,a₁,w₁,hq,harr⟩:=h b (.inLoop c::k) cs hro trivial R5
 cases e with
 |normal=>
  obtain⟨e₂,a₂,w₂,hq₂,harr₂⟩:=hq b k cs hro;exact⟨e₂,a₂,w₂,hq₂,.of_steps (StepsIn.trans harr (.one (fenced_calm (n:=0) (F:=fw r) trivial R5 rfl) stepR_inLoop)) harr₂⟩
 |exit id=>exact⟨_,a₁,w₁,hq,.pass (x:= .inLoop c) rfl (fun _ _=> .inl (by simp)) harr⟩
 |goto l=>exact⟨_,a₁,w₁,hq,.pass (x:= .inLoop c) rfl (fun _ _=> .inl (by simp)) harr⟩
 |ret=>exact⟨_,a₁,w₁,hq,.pass (x:= .inLoop c) rfl (fun _ _=> .inl (by simp)) harr⟩
 |panic ch=>exact⟨_,a₁,w₁,hq,.pass (x:= .inLoop c) rfl (fun _ _=> .inl (by simp)) harr⟩
 |outgrown=>exact⟨_,a₁,w₁,hq,.pass (x:= .inLoop c) rfl (fun _ _=> .inl (by simp)) harr⟩
def LG(E:En)(tV:Exit->Act->World->Prop)(c:Code)(aO:List OE)(G:ou):Prop:= ∀a w S,St E aO G a w S->A8 E.r E.P c tV a w
def bK(h:LG E tV c aO G):CG E tV (.loop c) aO G:=fun a w S st=>KP (h a w S st)
def cy(h:CG E (Exit.then (A8 E.r E.P c tV) tV) c aO G):LG E tV c aO G:=fun a w S st=>Jh (h a w S st)
def aM(h:LG E tV c aO G')(k:Tf G' G):LG E tV c aO G:=fun a w S st=>h a w S (st.sub k)
def aY(h:LG E tV c aO G):AT E (Exit.then (A8 E.r E.P c tV) tV) .normal aO G:=h
def am{id:Nat}(h:AT E tV (.exit id) aO G):AT E (Exit.then hx tV) (.exit id) aO G:=h
def ae(h:AT E tV .ret aO G):AT E (Exit.then hx tV) .ret aO G:=h
def KJ{id:Nat}(h:AT E tV .ret aO G):AT E (Exit.inBlock id tV) .ret aO G:=h
def ah{id:Nat}(h:AT E tV .normal aO G):AT E (Exit.inBlock id tV) .normal aO G:=h
def bL{id:Nat}(h:AT E tV .normal aO G):AT E (Exit.inBlock id tV) (.exit id) aO G:=fun a w S st=>by
 simp only [Exit.inBlock,gQ];exact h a w S st
def cN{id id' :Nat}(hne:Nat.beq id' id=false)(h:AT E tV (.exit id') aO G):AT E (Exit.inBlock id tV) (.exit id') aO G:=fun a w S st=>by
 have:id' ≠id:=fun e=>by subst e;simp at hne
 simp only [Exit.inBlock,this,hX];exact h a w S st
def Au(S:SH):List Ty->List Value->Prop
 |[],[]=>True
 |t::ts,v::vs=>t.p S v/\Au S ts vs
 |_,_=>False
def Au.mono(h:SH.le S S'): ∀{ts:List Ty} {vs:List Value},Au S ts vs->Au S' ts vs
 |[],[],_=>trivial
 |t::_,_::_,⟨H,W⟩=>⟨t.mono h H,Au.mono h W⟩
def Au.length: ∀{ts:List Ty} {vs:List Value},Au S ts vs->vs.length=ts.length
 |[],[],_=>rfl
 |_::_,_::_,⟨_,W⟩=>by simp [Au.length W]
def dk(P:Program)(f:FuncId)(ts:List Ty)(t:Ty):Prop:=
 ∀w S vs,oF w S->Au S ts vs->Calls P f vs.toArray w fun e w' => ∃v S',e= .returned v/\mi xM w S w' S' /\oF w' S' /\t.p S' v
def Mb(E:En)(t:Ty):Ending->World->Prop:=fun e w' => ∃v S',e= .returned v/\mi E.B E.w0 E.S0 w' S' /\oF w' S' /\t.p S' v
def Cz(k:Nat):List Ty->ou
 |[]=>[]
 |t::ts=>(k,t)::Cz (k+1) ts
def HR: ∀(ts:List Ty) (k j:Nat) (t:Ty),cX (Cz k ts) j=some t-> ∃i,j=k+i/\ts[i]? =some t
 |[],_,_,_,h=>by simp [Cz,cX]at h
 |u::ts,k,j,t,h=>by
  unfold Cz cX at h;by_cases V:Nat.beq k j=true
  ·rw [V]at h;exact⟨0,by rw [t8 V];rfl,by simpa using h⟩
  ·rw [Dp]at V;rw [V]at h;obtain⟨i,H,W⟩:=HR ts (k+1) j t h;exact⟨i+1,by omega,by simpa using W⟩
def Au.at_: ∀{ts:List Ty} {vs:List Value} (_:Au S ts vs) (i:Nat) (t:Ty),ts[i]? =some t-> ∃v,vs[i]? =some v/\t.p S v
 |_::_,v::_,⟨H,_⟩,0,t,h=>⟨v,rfl,by simp at h;rw [<-h];exact H⟩
 |_::ts,_::vs,⟨_,W⟩,i+1,t,h=>by simpa using Au.at_ W i t (by simpa using h)
def C9{vs:List Value}(h:Au S ts vs)(n:Nat)(hn:ts.length<=n):
  cD ⟨n,[]⟩ S {tmps:=vs.toArray++Array.replicate (n-vs.toArray.size) undef,defers:=[]} (Cz 0 ts):=by
 have hl:=h.length;refine⟨by simp;omega,rfl,fun j t hj=>?_⟩;obtain⟨i,e,hi⟩:=HR ts 0 j t hj;have e' :j=i:=by omega
 subst e';obtain⟨v,hv,D⟩:=h.at_ j t hi;have hlt:j<vs.length:=(vK.1 hv).1;have:(vs.toArray++Array.replicate (n-vs.toArray.size) undef).getD j undef=v:=by
  rw [KM,Array.getElem?_append_left (by simpa using hlt)];simp [hv]
 rw [this];exact D
def Mi{P:Program}(hf:P.funcs[f]? =some fn)(V:fn.body=some c)(hn:ts.length<=fn.ntmps)(h: ∀w0 S0,CG ⟨P,⟨fn.ntmps,[]⟩,xM,w0,S0,none⟩ (bodyPost P fn (Mb ⟨P,⟨fn.ntmps,[]⟩,xM,w0,S0,none⟩ t)) c [] (Cz 0 ts)):dk P f ts t:=by
 intro w S vs hs hv;exact zX.1 (callsIn_of_wp (F:=fw none) (n:=0) hf V trivial (h w S _ w S ⟨mi.refl _ _ _,hs,trivial,C9 hv _ hn⟩))
def vN(P:Program)(fn:Func)(k:Nat)(h:fn.results= #[.tmp k])(tmps:Array Value)(w:World):(results fn tmps).run P w= .ok (tmps.getD k undef) w:=by
 simp [results,h]
def aC{P:Program}{N:Nat}{B:Nat->Prop}{w0:World}{S0:SH}(hr:fn.results= #[.tmp k])(hk:cX G k=some t):
  AT ⟨P,⟨N,[]⟩,B,w0,S0,none⟩ (bodyPost P fn (Mb ⟨P,⟨N,[]⟩,B,w0,S0,none⟩ t)) .ret aO G:=fun _ _ S st=>
 ⟨st.facts.defers,_,vN P fn k hr _ _,_,S,rfl,st.ext,st.sat,st.facts.at_ k t hk⟩
def tT(ts:List Ty):Ty where
 p:=fun S v=> ∃vs,v= .tuple vs.toArray/\Au S ts vs
 mono:=fun h k=>by obtain⟨vs,e,k⟩:=k;exact⟨vs,e,Au.mono h k⟩
def Ge(P:Program)(fn:Func)(j k:Nat)(h:fn.results= #[.tmp j,.tmp k])(tmps:Array Value)(w:World):(results fn tmps).run P w= .ok (.tuple #[tmps.getD j undef,tmps.getD k undef]) w:=by
 simp [results,h]
def cM{P:Program}{N:Nat}{B:Nat->Prop}{w0:World}{S0:SH}{u:Ty}(hr:fn.results= #[.tmp j,.tmp k])(hj:cX G j=some t)(hk:cX G k=some u):
  AT ⟨P,⟨N,[]⟩,B,w0,S0,none⟩ (bodyPost P fn (Mb ⟨P,⟨N,[]⟩,B,w0,S0,none⟩ (tT [t,u]))) .ret aO G:=fun _ _ S st=>
 ⟨st.facts.defers,_,Ge P fn j k hr _ _,_,S,rfl,st.ext,st.sat,[_,_],rfl,st.facts.at_ j t hj,st.facts.at_ k u hk,trivial⟩
def DO(P:Program)(fn:Func)(i j k:Nat)(h:fn.results= #[.tmp i,.tmp j,.tmp k])(tmps:Array Value)(w:World):(results fn tmps).run P w= .ok (.tuple #[tmps.getD i undef,tmps.getD j undef,tmps.getD k undef]) w:=by
 simp [results,h]
def pK{P:Program}{N:Nat}{B:Nat->Prop}{w0:World}{S0:SH}{bx u:Ty}(hr:fn.results= #[.tmp i,.tmp j,.tmp k])(hi:cX G i=some bx)(hj:cX G j=some t)(hk:cX G k=some u):
  AT ⟨P,⟨N,[]⟩,B,w0,S0,none⟩ (bodyPost P fn (Mb ⟨P,⟨N,[]⟩,B,w0,S0,none⟩ (tT [bx,t,u]))) .ret aO G:=fun _ _ S st=>
 ⟨st.facts.defers,_,DO P fn i j k hr _ _,_,S,rfl,st.ext,st.sat,[_,_,_],rfl,st.facts.at_ i bx hi,st.facts.at_ j t hj,st.facts.at_ k u hk,trivial⟩
def yC(P:Program)(fn:Func)(h:fn.results= #[])(tmps:Array Value)(w:World):(results fn tmps).run P w= .ok (.tuple #[]) w:=by
 simp [results,h]
end
variable{dst:Option Tmp}{g:Option (Nat×Bool)}{k' :IntKind}{xt yt:TypeId}
section
variable{E:En}{ty:TypeId}
def dw.of_run(h: ∀a w S,oF w S->gm E.base E.B w S aO->cD E.N S a G->
  ∃v w' S',(execOp a.eval o).run E.P w= .ok (.value v) w' /\mi xM w S w' S' /\oF w' S' /\t.p S' v)(hd: ∀c,o.op≠ .defer c:=by intro c h;cases h):dw E aO G o t:=fun a w S hs ho hf=>by
 obtain⟨v,w',S',hr,he,hs',hv⟩:=h a w S hs ho hf;refine⟨hd,?_⟩;rw [hr];exact⟨v,S',rfl,he,hs',hv⟩
def dw.of_pure(h: ∀a w S,oF w S->gm E.base E.B w S aO->cD E.N S a G-> ∃v,(execOp a.eval o).run E.P w= .ok (.value v) w/\t.p S v)(hd: ∀c,o.op≠ .defer c:=by intro c h;cases h):dw E aO G o t:=
 .of_run (fun a w S hs ho hf=>let⟨v,hr,hv⟩:=h a w S hs ho hf;⟨v,w,S,hr,mi.refl _ _ _,hs,hv⟩) hd
def cB(K:bk E.N G x t):dw E aO G ⟨dst,.move x,ty,pos,after,g⟩ t:=
 .of_pure fun a _ S _ _ hf=>⟨a.eval x,rfl,K S a hf⟩
def cg(K:bk E.N G x t):dw E aO G ⟨dst,.assign x,ty,pos,after,g⟩ t:=
 .of_pure fun a _ S _ _ hf=>⟨a.eval x,rfl,K S a hf⟩
def BO{c:Operand}(hc:bk E.N G c (tD rB b))(K:b=true->bk E.N G x t)(hy:b=false->bk E.N G y t):dw E aO G ⟨dst,.pick c x y,ty,pos,after,g⟩ t:=
 .of_pure fun a _ S _ _ hf=>by
  have H:a.eval c= .bool b:=ko.1 (hc S a hf);refine⟨if b then a.eval x else a.eval y,by simp [execOp,H,asBool],?_⟩
  cases b with
  |true=>exact K rfl S a hf
  |false=>exact hy rfl S a hf
section
variable{k:IntKind}{m n:Int}
def FN{P:Program}{op:BinOp}{xt:TypeId}{x y:Operand}{k:IntKind}{m n:Int}:(eqGuard op xt x y (.int k m) (.int k' n)).run P w= .ok () w:=by
 unfold eqGuard;cases op<;>rfl
def uY{op:BinOp}(K:bk E.N G x (tD (rI k) m))(hy:bk E.N G y (tD (rI k) n))(hv: ∀P w,(binOp op xt (.int k m) (.int k n)).run P w= .ok v w)(D: ∀S,t.p S v):
  dw E aO G ⟨dst,.binOp op xt x y yt,ty,pos,after,g⟩ t:=
 .of_pure fun a w S _ _ hf=>by
  have H:a.eval x= .int k m:=fH.1 (K S a hf);have W:a.eval y= .int k n:=fH.1 (hy S a hf);refine⟨v,?_,D S⟩;simp [execOp,H,W,FN,hv]
def cU(K:bk E.N G x (tD (rI k) m))(hy:bk E.N G y (tD (rI k) n)):dw E aO G ⟨dst,.binOp .add xt x y yt,ty,pos,after,g⟩ (tD (rI k) (k.wrap (m+n))):=
 uY K hy (fun _ _=>by simp [binOp,Op.intArith]) (fun _=>fH.2 rfl)
def ec(K:bk E.N G x (tD (rI k) m))(hy:bk E.N G y (tD (rI k) n)):dw E aO G ⟨dst,.binOp .sub xt x y yt,ty,pos,after,g⟩ (tD (rI k) (k.wrap (m-n))):=
 uY K hy (fun _ _=>by simp [binOp,Op.intArith]) (fun _=>fH.2 rfl)
def HK(K:bk E.N G x (tD (rI k) m))(hy:bk E.N G y (tD (rI k) n)):dw E aO G ⟨dst,.binOp .mul xt x y yt,ty,pos,after,g⟩ (tD (rI k) (k.wrap (m*n))):=
 uY K hy (fun _ _=>by simp [binOp,Op.intArith]) (fun _=>fH.2 rfl)
def C3(K:bk E.N G x (tD (rI k) m))(hy:bk E.N G y (tD (rI k) n))(h0:n≠0):dw E aO G ⟨dst,.binOp .quo xt x y yt,ty,pos,after,g⟩ (tD (rI k) (k.wrap (m.tdiv n))):=
 uY K hy (fun _ _=>by simp [binOp,Op.intDiv,h0]) (fun _=>fH.2 rfl)
def HJ(K:bk E.N G x (tD (rI k) m))(hy:bk E.N G y (tD (rI k) n))(h0:n≠0):dw E aO G ⟨dst,.binOp .rem xt x y yt,ty,pos,after,g⟩ (tD (rI k) (m.tmod n)):=
 uY K hy (fun _ _=>by simp [binOp,Op.intDiv,h0]) (fun _=>fH.2 rfl)
def eC(K:bk E.N G x (tD (rI k) m))(hy:bk E.N G y (tD (rI k) n)):dw E aO G ⟨dst,.binOp .lss xt x y yt,ty,pos,after,g⟩ (tD rB (decide (m<n))):=
 uY K hy (fun _ _=>by simp [binOp,Op.intCmp]) (fun _=>ko.2 rfl)
def ft(K:bk E.N G x (tD (rI k) m))(hy:bk E.N G y (tD (rI k) n)):dw E aO G ⟨dst,.binOp .leq xt x y yt,ty,pos,after,g⟩ (tD rB (decide (m<=n))):=
 uY K hy (fun _ _=>by simp [binOp,Op.intCmp]) (fun _=>ko.2 rfl)
def d8(K:bk E.N G x (tD (rI k) m))(hy:bk E.N G y (tD (rI k) n)):dw E aO G ⟨dst,.binOp .gtr xt x y yt,ty,pos,after,g⟩ (tD rB (decide (n<m))):=
 uY K hy (fun _ _=>by simp [binOp,Op.intCmp]) (fun _=>ko.2 rfl)
def d9(K:bk E.N G x (tD (rI k) m))(hy:bk E.N G y (tD (rI k) n)):dw E aO G ⟨dst,.binOp .geq xt x y yt,ty,pos,after,g⟩ (tD rB (decide (n<=m))):=
 uY K hy (fun _ _=>by simp [binOp,Op.intCmp]) (fun _=>ko.2 rfl)
def dW(K:bk E.N G x (tD (rI k) m))(hy:bk E.N G y (tD (rI k) n)):dw E aO G ⟨dst,.binOp .eql xt x y yt,ty,pos,after,g⟩ (tD rB (m==n)):=
 uY K hy (fun _ _=>by simp [binOp,Op.intCmp]) (fun _=>ko.2 rfl)
def dc(K:bk E.N G x (tD (rI k) m))(hy:bk E.N G y (tD (rI k) n)):dw E aO G ⟨dst,.binOp .neq xt x y yt,ty,pos,after,g⟩ (tD rB (m !=n)):=
 uY K hy (fun _ _=>by simp [binOp,Op.intCmp]) (fun _=>ko.2 rfl)
def sO(op:BinOp)(k:IntKind)(x y:Int):Int:=
 k.wrap (match op with
  | .and=>(BitVec.ofInt k.bits x&&&BitVec.ofInt k.bits y).toNat
  | .or=>(BitVec.ofInt k.bits x|||BitVec.ofInt k.bits y).toNat
  | .xor=>(BitVec.ofInt k.bits x^^^BitVec.ofInt k.bits y).toNat
  |_=>(BitVec.ofInt k.bits x&&& ~~~BitVec.ofInt k.bits y).toNat:Nat)
def abo(K:bk E.N G x (tD (rI k) m))(hy:bk E.N G y (tD (rI k) n)):dw E aO G ⟨dst,.binOp .and xt x y yt,ty,pos,after,g⟩ (tD (rI k) (sO .and k m n)):=
 uY K hy (fun _ _=>by simp [binOp,Op.intBits];rfl) (fun _=>fH.2 rfl)
def HI(K:bk E.N G x (tD (rI k) m))(hy:bk E.N G y (tD (rI k) n)):dw E aO G ⟨dst,.binOp .xor xt x y yt,ty,pos,after,g⟩ (tD (rI k) (sO .xor k m n)):=
 uY K hy (fun _ _=>by simp [binOp,Op.intBits];rfl) (fun _=>fH.2 rfl)
def NV{op:BinOp}(K:bk E.N G x (tD (rI k) m))(hy:bk E.N G y (tD (rI k') n))(hv: ∀P w,(binOp op xt (.int k m) (.int k' n)).run P w= .ok v w)(D: ∀S,t.p S v):
  dw E aO G ⟨dst,.binOp op xt x y yt,ty,pos,after,g⟩ t:=
 .of_pure fun a w S _ _ hf=>by
  have H:a.eval x= .int k m:=fH.1 (K S a hf);have W:a.eval y= .int k' n:=fH.1 (hy S a hf);refine⟨v,?_,D S⟩;simp [execOp,H,W,FN,hv]
def VJ(K:bk E.N G x (tD (rI k) m))(hy:bk E.N G y (tD (rI k') n))(h0:0<=n):dw E aO G ⟨dst,.binOp .shl xt x y yt,ty,pos,after,g⟩ (tD (rI k) (k.wrap (m*2^(min n.toNat k.bits)))):=
 NV K hy (fun _ _=>by simp [binOp,Op.shift,Int.not_lt.2 h0]) (fun _=>fH.2 rfl)
def Lz(K:bk E.N G x (tD (rI k) m))(hy:bk E.N G y (tD (rI k') n))(h0:0<=n):dw E aO G ⟨dst,.binOp .shr xt x y yt,ty,pos,after,g⟩ (tD (rI k) (m.fdiv (2^(min n.toNat k.bits)))):=
 NV K hy (fun _ _=>by simp [binOp,Op.shift,Int.not_lt.2 h0]) (fun _=>fH.2 rfl)
def abn(K:bk E.N G x (tD (rI k) m)):dw E aO G ⟨dst,.unOp .xor xt x,ty,pos,after,g⟩ (tD (rI k) (sO .xor k (if k.signed then -1 else k.max) m)):=
 .of_pure fun a w S _ _ hf=>by
  have H:a.eval x= .int k m:=fH.1 (K S a hf);exact⟨_,by simp [execOp,H,Op.unary,Op.intBits];rfl,fH.2 rfl⟩
def fq(K:bk E.N G x (tD rB b)):dw E aO G ⟨dst,.unOp .not xt x,ty,pos,after,g⟩ (tD rB (!b)):=
 .of_pure fun a w S _ _ hf=>by
  have H:a.eval x= .bool b:=ko.1 (K S a hf);exact⟨.bool (!b),by simp [execOp,H,Op.unary],ko.2 rfl⟩
def cT{st dt:TypeId}{d:TypeDesc}(hs:E.P.underlying st=some d)(hd:E.P.underlying dt=some (.int k'))(K:bk E.N G x (tD (rI k) m)):
  dw E aO G ⟨dst,.convert st dt x,ty,pos,after,g⟩ (tD (rI k') (k'.wrap m)):=
 .of_pure fun a w S _ _ hf=>by
  have H:a.eval x= .int k m:=fH.1 (K S a hf);refine⟨.int k' (k'.wrap m),?_,fH.2 rfl⟩;simp only [execOp,H,convert,Am,mb hs,mb hd,Cc];cases d<;>simp [Conv.intToInt]
end
def yE{P:Program}{t:TypeId}(D:P.underlying t=some .bool)(d:Nat)(b c:Bool)(w:World):(Op.equalIn (d+1) t (.bool b) (.bool c)).run P w= .ok (b==c) w:=by
 simp [Op.equalIn,mb D]
def BA{P:Program}{t:TypeId}{x y:Value}(V: ∀d,(Op.equalIn (d+1) t x y).run P w= .ok b w):(Op.equal t x y).run P w= .ok b w:=V 9999
section
def D7{c:Bool}(D:E.P.underlying xt=some .bool)(K:bk E.N G x (tD rB b))(hy:bk E.N G y (tD rB c)):dw E aO G ⟨dst,.binOp .eql xt x y yt,ty,pos,after,g⟩ (tD rB (b==c)):=
 .of_pure fun a w S _ _ hf=>by
  have H:a.eval x= .bool b:=ko.1 (K S a hf);have W:a.eval y= .bool c:=ko.1 (hy S a hf);exact⟨.bool (b==c),by simp [execOp,H,W,eqGuard,binOp,BA (fun d=>yE D d b c w)],ko.2 rfl⟩
def LA{c:Bool}(D:E.P.underlying xt=some .bool)(K:bk E.N G x (tD rB b))(hy:bk E.N G y (tD rB c)):dw E aO G ⟨dst,.binOp .neq xt x y yt,ty,pos,after,g⟩ (tD rB (b !=c)):=
 .of_pure fun a w S _ _ hf=>by
  have H:a.eval x= .bool b:=ko.1 (K S a hf);have W:a.eval y= .bool c:=ko.1 (hy S a hf);exact⟨.bool (b !=c),by simp [execOp,H,W,eqGuard,binOp,BA (fun d=>yE D d b c w)];cases b<;>cases c<;>rfl,ko.2 rfl⟩
def abm{op:BinOp}{u:Xo}(K:bk E.N G x (tD rS bx))(hy:bk E.N G y (tD rS u))(hv: ∀P w,(Op.stringOp op ⟨bx.toArray⟩ ⟨u.toArray⟩).run P w= .ok (.bool b) w)(Y: ∀P w,(eqGuard op xt x y (.string ⟨bx.toArray⟩) (.string ⟨u.toArray⟩)).run P w= .ok () w)(V: ∀P w,(binOp op xt (.string ⟨bx.toArray⟩) (.string ⟨u.toArray⟩)).run P w=(Op.stringOp op ⟨bx.toArray⟩ ⟨u.toArray⟩).run P w):
  dw E aO G ⟨dst,.binOp op xt x y yt,ty,pos,after,g⟩ (tD rB b):=
 .of_pure fun a w S _ _ hf=>by
  have H:a.eval x= .string ⟨bx.toArray⟩:=EQ.1 (K S a hf);have W:a.eval y= .string ⟨u.toArray⟩:=EQ.1 (hy S a hf);refine⟨.bool b,?_,ko.2 rfl⟩;simp [execOp,H,W,Y,V,hv]
def GB{u:Xo}(K:bk E.N G x (tD rS bx))(hy:bk E.N G y (tD rS u)):dw E aO G ⟨dst,.binOp .eql xt x y yt,ty,pos,after,g⟩ (tD rB (bx==u)):=
 abm K hy (fun _ _=>by simp [Op.stringOp]) (fun _ _=>rfl) (fun _ _=>rfl)
end
end
def V8:TypeDesc->Bool
 | .struct _| .array _ _=>true
 |_=>false
structure TI(P:Program)(T:TypeId)(sz bytes:Nat)(agg:Bool)(z:List Value):Prop where
 info:(P.info? T).map (fun i=>(i.zero.map (·.cells.toList),i.size,i.bytes))=some (some z,sz,bytes)
 ag:(P.underlying T).map V8=some agg
variable{T:TypeId}{bytes:Nat}{z:List Value}
section
variable{P:Program}{sz:Nat}{agg:Bool}
def TI.get(h:TI P T sz bytes agg z): ∃i zv,P.info? T=some i/\i.size=sz/\i.bytes=bytes/\i.zero=some zv/\zv.cells=z.toArray:=by
 have:=h.info
 cases hi:P.info? T with
 |none=>rw [hi]at this;simp at this
 |some i=>
  rw [hi]at this;simp only [nq,Option.some.injEq,Prod.mk.injEq,Rn]at this;obtain⟨⟨zv,H,W⟩,h3,h4⟩:=this;exact⟨i,zv,rfl,h3,h4,H,by rw [<-W]⟩
def TI.sizeOf(h:TI P T sz bytes agg z)(w:World):(Go.sizeOf T).run P w= .ok sz w:=by
 obtain⟨i,zv,H,W,_⟩:=h.get;simp [Go.sizeOf,typeInfo,H,W]
def TI.isAgg(h:TI P T sz bytes agg z)(w:World):(Go.isAgg T).run P w= .ok agg w:=by
 have:=h.ag
 cases hi:P.underlying T with
 |none=>rw [hi]at this;simp at this
 |some d=>
  rw [hi]at this;simp only [nq,Option.some.injEq]at this;simp only [Go.isAgg,Am,mb hi,Cc];rw [<-this];cases d<;>simp [V8]
def TI.zero(h:TI P T sz bytes agg z)(w:World): ∃zv,(zeroValue T).run P w= .ok zv w/\zv.cells=z.toArray:=by
 obtain⟨i,zv,H,_,_,h4,h5⟩:=h.get;exact⟨zv,by simp [zeroValue,typeInfo,H,h4],h5⟩
end
def kL(b off i:Nat):(⟨b,off,none⟩:Addr).add i=⟨b,off+i,none⟩:=by
 unfold Addr.add;split
 ·simp_all
 ·rfl
def zW{b:Nat}{c:Array Value}(h:w.heap[b]? =some (.cells c T fr))(i:Nat):w.cell? ⟨b,i,none⟩=c[i]? :=by
 simp [World.cell?,h]
def yD{P:Program}{b n:Nat}{c:Array Value}(h:w.heap[b]? =some (.cells c T fr))(hcs:(c.toList.drop off).take n=cs)(hl:cs.length=n):
  (loadCells ⟨b,off,none⟩ n).run P w= .ok cs.toArray w:=by
 rw [<-hl];refine run_loadCells_list w ⟨b,off,none⟩ cs fun j v hv=>?_;rw [kL,zW h];have hj:j<cs.length:=(vK.1 hv).1;rw [<-hcs,Cd (by omega),zb]at hv;simpa using hv
variable{U:TypeId}{rest:List Oper}
def lq{P:Program}{b:Nat}{c:Array Value}{sz:Nat}{agg:Bool}(ti:TI P U sz bytes agg z)(h:w.heap[b]? =some (.cells c T fr)){r:Rp α}(hsz:r.sz=sz)(hag:r.agg=agg){x:α}(K:r.rc S ((c.toList.drop off).take r.sz) x):
  (loadVar U ⟨b,off,none⟩).run P w= .ok (r.val ((c.toList.drop off).take r.sz)) w:=by
 have hl:=r.len K;subst hsz;subst hag;simp only [loadVar,Am,ti.isAgg,Cc]
 cases ha:r.agg with
 |true=>simp [ti.sizeOf,yD h rfl hl,Rp.val,ha]
 |false=>
  have H:=r.sc ha;have hcell:w.cell? ⟨b,off,none⟩=some (((c.toList.drop off).take r.sz).headD undef):=by
   rw [zW h];rw [H]at hl ⊢
   cases hd:c.toList.drop off with
   |nil=>rw [hd]at hl;simp at hl
   |cons v rest=>
    have:(c.toList.drop off)[0]? =some v:=by rw [hd];rfl
    rw [zb]at this;simpa using this
  simp [hcell,Rp.val,ha]
variable{ats:Array TypeId}{q:Rp β}
section
variable{E:En}{ty:TypeId}
def fC{r:Rp α}{x:α}{p:Operand}{sz:Nat}{agg:Bool}(ti:TI E.P U sz bytes agg z)(hsz:r.sz=sz)(hag:r.agg=agg)(hp:bk E.N G p (da r x)):
  dw E aO G ⟨dst,.load U p,ty,pos,after,g⟩ (tD r x):=
 .of_pure fun a w S hs _ hf=>by
  obtain⟨b,off,c,T,fr,H,W,h3⟩:=hp S a hf;obtain⟨c',h4,h5⟩:=hs.part W (r.len h3);rw [<-h5]at h3;refine⟨r.val ((c'.toList.drop off).take r.sz),?_,_,rfl,h3⟩;simp [execOp,H,Instr.loadAt,Instr.sureAddr,lq ti h4 hsz hag h3]
def Z9(bx:Xo):(ByteArray.mk bx.toArray).size=bx.length:=by simp [ByteArray.size]
def fK{r:Rp α}{t:TypeId}(D:E.P.underlying t=some (.slice e))(K:bk E.N G x (tD (gE r) xs)):
  dw E aO G ⟨dst,.call ⟨.builtin .len,#[x],#[t]⟩,ty,pos,after,g⟩ (tD (rI .i64) (xs.length:Int)):=
 .of_pure fun a w S _ _ hf=>by
  obtain⟨ad,cap,H,_⟩:=ku.1 (K S a hf);refine⟨.int .i64 xs.length,?_,fH.2 rfl⟩;simp [execOp,resolve,invoke,builtin,Builtin.len_,mb D,H,goInt]
def LC{t:TypeId}(D:E.P.underlying t=some .string)(K:bk E.N G x (tD rS bx)):
  dw E aO G ⟨dst,.call ⟨.builtin .len,#[x],#[t]⟩,ty,pos,after,g⟩ (tD (rI .i64) (bx.length:Int)):=
 .of_pure fun a w S _ _ hf=>by
  have H:a.eval x= .string ⟨bx.toArray⟩:=EQ.1 (K S a hf);refine⟨.int .i64 bx.length,?_,fH.2 rfl⟩;simp [execOp,resolve,invoke,builtin,Builtin.len_,mb D,H,goInt,Z9]
def gw{α:Type}(xs:List α)(i:Int):Option α:=if 0<=i then xs[i.toNat]? else none
def eU(xs:List α)(i:Nat):gw xs (i:Int)=xs[i]? :=by simp [gw]
def Tj{r:Rp α}{a:Option Addr}(h:JS r S a xs){x:α}(K:xs[i]? =some x):
  ∃b off c T fr,a=some ⟨b,off,none⟩/\S b=some (.cells c T fr)/\r.rc S ((c.toList.drop (off+i*r.sz)).take r.sz) x:=by
 rcases h with rfl|⟨b,off,c,T,fr,e1,e2,e3⟩
 ·simp at K
 ·refine⟨b,off,c,T,fr,e1,e2,?_⟩;have h:=DW e3 K;have hi:i<xs.length:=(vK.1 K).1;rw [Cl,CJ,uH]at h;have:min r.sz (xs.length*r.sz-i*r.sz)=r.sz:=by
   rw [<-Nat.sub_mul];have:1*r.sz<=(xs.length-i)*r.sz:=Dr _ (by omega);omega
  rw [this]at h;exact h
def dV{r:Rp α}{y:α}{ix:Operand}{t:TypeId}{k:IntKind}{i:Int}{sz:Nat}{agg:Bool}(D:E.P.underlying t=some (.slice e))(ti:TI E.P e sz bytes agg z)(hsz:r.sz=sz)(K:bk E.N G x (tD (gE r) xs))(hi:bk E.N G ix (tD (rI k) i))(hy:gw xs i=some y):
  dw E aO G ⟨dst,.indexAddr t x ix,ty,pos,after,g⟩ (da r y):=
 .of_pure fun a w S _ _ hf=>by
  obtain⟨ad,cap,H,_,_,W⟩:=ku.1 (K S a hf);have h3:a.eval ix= .int k i:=fH.1 (hi S a hf);have h0:0<=i:=by unfold gw at hy;split at hy;assumption;cases hy
  have hy' :xs[i.toNat]? =some y:=by unfold gw at hy;rw [bM h0]at hy;exact hy
  have hlt:i.toNat<xs.length:=(vK.1 hy').1;obtain⟨b,off,c,T,fr,e1,e2,e3⟩:=Tj W hy';subst e1;refine⟨.pointer (some ⟨b,off+i.toNat*r.sz,none⟩),?_,b,_,c,T,fr,rfl,e2,e3⟩;have hc:0<=i/\i<(xs.length:Int):=⟨h0,by omega⟩;simp [execOp,H,h3,Instr.indexAt,asIntOf,mb D,hc,ti.sizeOf,kL,hsz]
def lO{α β:Type}(r:Rp α)(off:Nat)(q:Rp β)(get:α->β):Prop:= ∀S cs x,r.rc S cs x->q.rc S ((cs.drop off).take q.sz) (get x)
def cq(P:Program)(T:TypeId)(i:Nat):Option (Nat×Nat):=
 match P.underlying T with
 |some (.struct fs)=>(fs[i]?).bind fun f=>(P.info? f.type).map fun q=>(f.offset,q.size)
 |_=>none
def JZ{P:Program}{sz:Nat}(h:cq P T i=some (off,sz)): ∃fs f,P.underlying T=some (.struct fs)/\fs[i]? =some f/\f.offset=off/\ ∀w,(sizeOf f.type).run P w= .ok sz w:=by
 unfold cq at h;split at h
 ·rename_i fs hu
  cases hf:fs[i]? with
  |none=>rw [hf]at h;simp at h
  |some f=>
   rw [hf]at h
   cases hq:P.info? f.type with
   |none=>simp [hq]at h
   |some q=>
    simp [hq]at h;exact⟨fs,f,hu,hf,h.1,fun w=>by simp [sizeOf,typeInfo,hq,h.2]⟩
 ·cases h
def eg{r:Rp α}{get:α->β}{x:α}{sz:Nat}{p:Operand}(hf:cq E.P T i=some (off,sz))(h0:Nat.beq sz 0=false)(hq:lO r off q get)(hoff:Nat.ble (off+q.sz) r.sz=true)(hp:bk E.N G p (da r x)):dw E aO G ⟨dst,.fieldAddr T p i,ty,pos,after,g⟩ (da q (get x)):=
 .of_pure fun a w S _ _ hF=>by
  obtain⟨b,o,c,U,fr,H,W,h3⟩:=hp S a hF;obtain⟨fs,f,e1,e2,e3,e4⟩:=JZ hf;have h0' :sz≠0:=fun e=>by subst e;simp at h0
  have hoff' :off+q.sz<=r.sz:=vq hoff;refine⟨.pointer (some ⟨b,o+off,none⟩),?_,b,_,c,U,fr,rfl,W,?_⟩
  ·simp [execOp,H,Instr.fieldAt,mb e1,e2,Instr.sureAddr,fieldPlace,e4,h0',e3,kL]
  ·have:=hq S _ x h3;rw [Cl,CJ,uH,Aw (by omega)]at this;exact this
def aj(P:Program)(f:FuncId):Bool:=
 match P.funcs[f]? with
 |some fn=> !(fn.name== "runtime.NumGoroutine")&&fn.body.isSome
 |none=>false
def k7{P:Program}(h:aj P f=true)(args:Array Value)(w:World):(callFunc f args).run P w= .ok (.enter f args) w:=by
 unfold aj at h
 cases hf:P.funcs[f]? with
 |none=>rw [hf]at h;cases h
 |some fn=>
  rw [hf]at h;simp only [nw,Cn]at h;have H:fn.name≠ "runtime.NumGoroutine" :=by simpa using h.1
  have W:fn.body≠none:=fun e=>by rw [e]at h;simp at h
  simp [callFunc,hf,H,W]
def nD(N:Fr)(G:ou):List Operand->List Ty->Prop
 |[],[]=>True
 |x::xs,t::ts=>bk N G x t/\nD N G xs ts
 |_,_=>False
def nD.tys{N:Fr}(hF:cD N S a G): ∀{xs:List Operand} {ts:List Ty},nD N G xs ts->Au S ts (xs.map a.eval)
 |[],[],_=>trivial
 |_::_,_::_,⟨H,W⟩=>⟨H S a hF,nD.tys hF W⟩
def cC{xs:List Operand}(hc:aj E.P f=true)(hs:dk E.P f ts t)(K:nD E.N G xs ts):
  dw E aO G ⟨dst,.call ⟨.value (.func f),xs.toArray,ats⟩,ty,pos,after,g⟩ t:=fun a w S hS _ hF=>by
 have hr:(execOp a.eval ⟨dst,.call ⟨.value (.func f),xs.toArray,ats⟩,ty,pos,after,g⟩).run E.P w= .ok (.enter f (xs.map a.eval).toArray) w:=by
  simp [execOp,resolve,Act.eval,Deferred.ofValue,invoke,k7 hc]
 refine⟨fun c h=>(by cases h),?_⟩;rw [hr];exact(hs w S _ hS (K.tys hF)).mono fun e w' ⟨v,S',he,H,W,h3⟩=>⟨v,he,v,S',rfl,H,W,h3⟩
end
def qo{o:Obj}(h:k<w.heap.size):(w.alloc o).heap[k]? =w.heap[k]? :=RowKit.Below.heap_alloc w o k h
def SH.set(S:SH)(b:Nat)(o:Obj):SH:=fun k=>if k=b then some o else S k
def pi(S:SH)(b:Nat)(o:Obj):S.set b o b=some o:=bM rfl
def u5(S:SH){b:Nat}(o:Obj)(h:k≠b):S.set b o k=S k:=bB h
def yV{b:Nat}{o:Obj}(h: ∀q,S b=some q->MA q o):SH.le S (S.set b o):=fun k q hq=>by
 by_cases hk:k=b
 ·subst hk;exact⟨o,pi _ _ _,h q hq⟩
 ·exact⟨q,by rw [u5 _ _ hk];exact hq,wZ q⟩
def oF.set(h:oF w S){b:Nat}{o:Obj}(H:w.heap[b]? =some o')(W:MA o o')(h3: ∀q,S b=some q->MA q o):oF w (S.set b o):=by
 refine⟨fun k q hq=>?_,fun p hp=>?_,fun w' hw' =>h.tb w' fun k q hq=>?_⟩
 ·by_cases hk:k=b
  ·subst hk;rw [pi]at hq;cases hq;exact⟨o',H,W⟩
  ·rw [u5 _ _ hk]at hq;exact h k q hq
 ·obtain⟨c,T,fr,g1,g2⟩:=h.gl p hp;by_cases hk:p.1=b
  ·subst hk;obtain⟨d,hd⟩:=h3 _ g1;refine⟨_,T,fr,by rw [pi,hd],?_⟩;rw [List.toList_toArray,GM ?_]
   ·exact g2
   ·have:=congrArg List.length g2;rw [Ca]at this;omega
  ·exact⟨c,T,fr,by rw [u5 _ _ hk];exact g1,g2⟩
 ·by_cases hk:k=b
  ·subst hk;obtain⟨o1,g1,g2⟩:=hw' k o (pi _ _ _);exact⟨o1,g1,J9 (h3 q hq) g2⟩
  ·exact hw' k q (by rw [u5 _ _ hk];exact hq)
def mH(o:Obj)(hs:oF w S):mi xM w S (w.alloc o) S/\oF (w.alloc o) S/\S w.heap.size=none:=by
 refine⟨⟨rfl,rfl,rfl,kE _,by simp,fun k hk _=>qo hk,SH.le_refl _,fun _ _ _=>rfl⟩,hs.same fun b q V=>qo (hs.lt V),?_⟩
 cases h:S w.heap.size with
 |none=>rfl
 |some q=>have:=hs.lt h;omega
def yd(o:Obj)(hs:oF w S):mi xM w S (w.alloc o) (S.set w.heap.size o)/\oF (w.alloc o) (S.set w.heap.size o):=by
 obtain⟨H,W,h3⟩:=mH o hs;refine⟨⟨rfl,rfl,rfl,kE _,by simp,fun k hk _=>qo hk,yV fun q hq=>(by rw [h3]at hq;cases hq),fun k hk _=>u5 _ _ (by omega)⟩,W.set (Ck w o) (wZ o) fun q hq=>by rw [h3]at hq;cases hq⟩
def Bw(hs:oF w S):mi xM w S w.drew S/\oF w.drew S:=⟨⟨rfl,rfl,rfl,Nat.le_succ _,kE _,fun _ _ _=>rfl,SH.le_refl _,fun _ _ _=>rfl⟩,hs.same fun _ _ _=>rfl⟩
def aI(l:Option Nat)(cap n:Nat):Value:=
 match l with
 |none=> .slice none 0 0
 |some b=> .slice (some ⟨b,0,none⟩) n cap
def CH(w:World)(T:TypeId)(sz:Nat)(l:Option Nat)(cap n:Nat)(cells:List Value):Prop:=
 match l with
 |none=>n=0/\cells=[]
 |some b=> ∃cur,w.heap[b]? =some (.cells cur T (0,0))/\n<=cap/\cap<=maxLen/\cur.size=cap*sz/\cur.toList.take (n*sz)=cells
def Dj{α:Type}(m:Bool)(r:Rp α)(T:TypeId)(l:Option Nat)(cap:Nat)(xs:List α)(w:World)(S:SH):Prop:=
 ∃cells,CH w T r.sz l cap xs.length cells/\uI r S cells xs/\ ∀b,l=some b->S b=if m then some (.cells cells.toArray T (0,0))else none
def CH.lt{sz b n:Nat}(h:CH w T sz (some b) cap n cells):b<w.heap.size:=by
 obtain⟨cur,H,_⟩:=h;exact(KL.1 H).1
def CH.ext{sz n:Nat}(h:CH w T sz l cap n cells)(k: ∀b,l=some b->w'.heap[b]? =w.heap[b]?):CH w' T sz l cap n cells:=by
 cases l with
 |none=>exact h
 |some b=>
  obtain⟨cur,H,W⟩:=h;exact⟨cur,by rw [k b rfl];exact H,W⟩
def o5{α:Type}(m:Bool)(r:Rp α)(T:TypeId)(l:Option Nat)(cap:Nat)(xs:List α):OE where
 fp:=fun k=>l=some k
 p:=Dj m r T l cap xs
 here:=by
  intro w S h k hk;subst hk;obtain⟨cells,H,_⟩:=h;exact H.lt
 kept:=by
  intro C w w' S S' h k hC;obtain⟨cells,H,W,h3⟩:=h;refine⟨cells,H.ext fun b V=>?_,vA k.keep W,fun b V=>?_⟩
  ·subst V;exact k.heap b H.lt (hC b rfl)
  ·subst V;rw [k.old b H.lt (hC b rfl)];exact h3 b rfl
abbrev d5{α:Type}(r:Rp α)(T:TypeId)(l:Option Nat)(cap:Nat)(xs:List α):OE:=o5 false r T l cap xs
abbrev lP{α:Type}(r:Rp α)(T:TypeId)(l:Option Nat)(cap:Nat)(xs:List α):OE:=o5 true r T l cap xs
def hU{α:Type}(xs ys:List α):Option (List α):=if xs.length+ys.length<=68719476736 then some (xs++ys)else none
variable{zs:List α}
def Xl(h:hU xs ys=some zs):zs=xs++ys/\xs.length+ys.length<=68719476736:=by
 unfold hU at h;split at h
 ·exact⟨by simpa using h.symm,by assumption⟩
 ·cases h
variable{news:List Value}
def Ch{P:Program}{t tx ty:TypeId}{i:TypeInfo}(D:P.underlying t=some (.slice e))(hi:P.info? e=some i){g sLen sCap:Nat}{cur:Array Value}(Y:w.heap[g]? =some (.cells cur e (0,0))){x:Value}{n:Nat}(hs:Src P i.size tx x n news w)(hroom:sLen+n<=sCap)(hfit:sLen*i.size+news.length<=cur.size):
  (Builtin.append_ #[t,tx] ty #[.slice (some ⟨g,0,none⟩) sLen sCap,x]).run P w=
   .ok (.slice (some ⟨g,0,none⟩) (sLen+n) sCap) (w.setRow g (cur.toList.take (sLen*i.size)++news++cur.toList.drop (sLen*i.size+news.length)).toArray):=by
 have hst:=run_storeCells_at P g (sLen*i.size) e news 0 cur w Y (by simpa using hfit) hs.one;simp only [Du]at hst;rcases hs.kind with⟨e',hk⟩|hk<;>simp [Builtin.append_,mb D,mb hk,sizeOf,typeInfo,hi,hs.len,hroom,hs.cells,Addr.add_lit,hst]
structure aaU(l:Option Nat)(w w' :World):Prop where
 os:w'.os=w.os
 tape:w'.tape=w.tape
 output:w'.output=w.output
 drawn:w.drawn<=w'.drawn
 size:w.heap.size<=w'.heap.size
 heap: ∀k,k<w.heap.size->l≠some k->w'.heap[k]? =w.heap[k]?
variable{t' :TypeId}
def Hu{P:Program}{t ty:TypeId}{sz:Nat}{agg:Bool}{n m:Nat}{x:Value}(ti:TI P T sz bytes agg z)(hz:Nat.beq z.length sz=true)(h0:Nat.blt 0 sz=true)(h128:Nat.ble bytes 2048=true)(D:P.underlying t=some (.slice T))(h:CH w T sz l cap n cells)(hs:Src P sz t' x m news w)(hlen:n+m<=68719476736):
  ∃l' cap' w',(Builtin.append_ #[t,t'] ty #[aI l cap n,x]).run P w= .ok (aI l' cap' (n+m)) w' /\CH w' T sz l' cap' (n+m) (cells++news)/\aaU l w w' /\(∀b,l' =some b->l=some b\/w.heap.size<=b)/\(∀b,l=some b->l' ≠some b->w'.heap[b]? =w.heap[b]?):=by
 obtain⟨i,zv,hi,H,W,h3,h4⟩:=ti.get;have h128' :=vq h128;have h0' :0<sz:=by simpa [ye] using h0
 have hz2:z.length=sz:=t8 hz;subst H;have hnl:=hs.newsLen;have hbytes:(n+m)*i.bytes<=140737488355328:=z8 (Nat.mul_le_mul hlen (by omega:i.bytes<=2048)) (by omega);by_cases hm:m=0
 ·subst hm;have hn0:news=[]:=vM (by simpa using hnl);subst hn0;refine⟨l,cap,w,?_,by simpa using h,⟨rfl,rfl,rfl,kE _,kE _,fun _ _ _=>rfl⟩,fun b V=> .inl V,fun b _ _=>rfl⟩
  cases l with
  |none=>
   obtain⟨rfl,_⟩:=h;exact run_append_nothing w t t' ty T i D hi none 0 0 (kE _) _ hs
  |some b=>
   obtain⟨cur,_,hle,_⟩:=h;exact run_append_nothing w t t' ty T i D hi (some ⟨b,0,none⟩) n cap hle _ hs
 have abD: ∀old,old<n+m->Builtin.nextslicecap (n+m) old*i.bytes<=281474976710656:=fun old ho=>growslice_fits ho hbytes;have fresh: ∀(base:Option Addr) (olds:List Value),aI l cap n= .slice base n cap->olds=cells->cap<n+m->(Builtin.firstCells i.size n (.slice base n cap)).run P w.drew= .ok olds.toArray w.drew->cells.length=n*i.size->
   ∃l' cap' w',(Builtin.append_ #[t,t'] ty #[aI l cap n,x]).run P w= .ok (aI l' cap' (n+m)) w' /\CH w' T i.size l' cap' (n+m) (cells++news)/\aaU l w w' /\(∀b,l' =some b->l=some b\/w.heap.size<=b)/\(∀b,l=some b->l' ≠some b->w'.heap[b]? =w.heap[b]?):=by
  intro base olds hv he Y hf hcl;subst he;have hr:=run_append_grow_src (P:=P) w t t' ty T i zv D hi h3 base n cap olds hf x m news hs Y (by omega) (abD cap Y);have hge:=grownCap_ge w (n+m) cap T;rw [<-hv]at hr;refine⟨some w.heap.size,grownCap w (n+m) cap T,_,hr,⟨_,Ck w.drew _,hge,grownCap_le_maxLen _ _ _ _ (by simp only [maxLen];omega),?_,?_⟩,⟨rfl,rfl,rfl,Nat.le_succ _,by simp,fun k hk _=>?_⟩,fun b V=> .inr (Fu (uK V)),fun b V _=>?_⟩
  ·have:(Builtin.zeroCells zv.cells (grownCap w (n+m) cap T-(n+m))).size=(grownCap w (n+m) cap T-(n+m))*i.size:=by
    rw [size_zeroCells,h4];simp [hz2]
   simp only [Array.size_append,Jz,nY,hcl,hnl,this];rw [<-Av,<-Av];congr 1;omega
  ·have hl2:(olds++news).length=(n+m)*i.size:=by rw [nY,hcl,hnl,Av]
   rw [Array.toList_append,GM (by simp only [List.toList_toArray];omega)];simp only [List.toList_toArray];exact yi (by omega)
  ·exact qo (w:=w.drew) hk
  ·cases l with
   |none=>cases V
   |some b0=>
    have hb' :b0=b:=uK V;subst hb';exact qo (w:=w.drew) (CH.lt h)
 cases l with
 |none=>
  obtain⟨rfl,rfl⟩:=h;have:=run_append_grow_src (P:=P) w t t' ty T i zv D hi h3 none 0 0 [] (run_firstCells_none w.drew i.size 0 0 0) x m news hs (by omega) (by omega) (abD 0 (by omega));have hge:=grownCap_ge w (0+m) 0 T;refine⟨some w.heap.size,grownCap w (0+m) 0 T,_,this,⟨_,Ck w.drew _,hge,grownCap_le_maxLen _ _ _ _ (by simp only [maxLen];omega),?_,?_⟩,⟨rfl,rfl,rfl,Nat.le_succ _,by simp,fun k hk _=>?_⟩,fun b V=> .inr (Fu (uK V)),fun b V=>(by cases V)⟩
  ·have:(Builtin.zeroCells zv.cells (grownCap w (0+m) 0 T-(0+m))).size=(grownCap w (0+m) 0 T-(0+m))*i.size:=by
    rw [size_zeroCells,h4];simp [hz2]
   simp only [Array.size_append,Jz,pM,hnl,this];rw [<-Av];congr 1;omega
  ·rw [Array.toList_append,GM (by simp [hnl])];simp only [pM,yA];exact yi (by omega)
  ·exact qo (w:=w.drew) hk
 |some b=>
  obtain⟨cur,V,hle,hmax,hcs,hct⟩:=h;have hcl:cells.length=n*i.size:=by
   rw [<-hct,Ca,Fz,hcs];exact Aw (Dr _ hle)
  by_cases hroom:n+m<=cap
  ·have hfit:n*i.size+news.length<=cur.size:=by rw [hnl,hcs,<-Av];exact Dr _ hroom
   have hr:=Ch (t:=t) (tx:=t') (ty:=ty) D hi V hs hroom hfit;refine⟨some b,cap,_,hr,⟨_,setRow_heap w b cur _ T _ V,hroom,hmax,?_,?_⟩,⟨rfl,rfl,rfl,kE _,by simp [World.setRow],fun k hk hkb=>setRow_other w b k _ (fun e=>hkb (by rw [e]))⟩,fun b' hb' => .inl hb',fun b' hb' hne=>absurd hb' hne⟩
   ·simp only [Jz,nY,Ca,Ao,Fz];omega
   ·rw [hct,Av,<-hnl,<-hcl,show cells.length+news.length=(cells++news).length from by simp];exact List.take_left
  ·refine fresh (some ⟨b,0,none⟩) cells rfl rfl (by omega) (run_firstCells_some w.drew i.size n ⟨b,0,none⟩ n cap cells hcl fun j v hv=>?_) hcl;have hj:j<cells.length:=(vK.1 hv).1;have hcell:w.cell? ⟨b,j,none⟩=cur[j]? :=zW V j;rw [kL];show w.cell? ⟨b,0+j,none⟩=_;rw [yA,hcell];rw [<-hct,Cd (by omega)]at hv;simpa using hv
def xy{P:Program}{r:Rp α}{e' :TypeId}(D:P.underlying t' =some (.slice e'))(hs:oF w S)(hv:(tD (gE r) ys).p S v): ∃news,Src P r.sz t' v ys.length news w/\uI r S news ys:=by
 obtain⟨ad,c2,rfl,hcap,hmax,hsl⟩:=ku.1 hv;rcases hsl with rfl|⟨b,off,c,U,fr,e1,e2,e3⟩
 ·refine⟨[],?_,rfl⟩
  cases ad with
  |none=>exact .ofNil w D c2
  |some a=>exact .ofSlice w D a 0 c2 [] (by simp) (fun j u hu=>by simp at hu) (fun u hu=>by cases hu)
 ·subst e1;obtain⟨c',h4,h5⟩:=hs.part e2 (mv e3);refine⟨_,.ofSlice w D ⟨b,off,none⟩ ys.length c2 _ (mv e3) (fun j u hu=>?_) (BH e3),e3⟩;rw [kL,zW h4];rw [<-h5]at hu;have hj:j<ys.length*r.sz:=by
   have:=(vK.1 hu).1;simp at this;omega
  rw [Cd hj,zb]at hu;simpa using hu
def oE(bx:Xo):List Int:=bx.map fun b=>(b.toNat:Int)
def J0{S:SH}: ∀bx:Xo,uI (rI .u8) S (bx.map fun b=>Value.int .u8 b.toNat) (oE bx)
 |[]=>rfl
 |b::bx=>⟨[.int .u8 b.toNat],_,rfl,rfl,J0 bx⟩
def Pu{P:Program}(D:P.underlying t' =some .string)(hv:(tD rS bx).p S v): ∃news,Src P (rI .u8).sz t' v (oE bx).length news w/\uI (rI .u8) S news (oE bx):=by
 have e:=EQ.1 hv;subst e;refine⟨_,?_,J0 bx⟩;have:=Src.ofString (P:=P) w D ⟨bx.toArray⟩;have e1:(ByteArray.mk bx.toArray).size=(oE bx).length:=by simp [ByteArray.size,oE]
 rw [e1]at this;simpa [byteCells,rI] using this
variable{mm:Bool}
def AQ{P:Program}{r:Rp α}{t ty:TypeId}{sz:Nat}{agg:Bool}{base:Nat}{B:Nat->Prop}(ti:TI P T sz bytes agg z)(hsz:r.sz=sz)(hz:Nat.beq z.length sz=true)(h0:Nat.blt 0 sz=true)(h128:Nat.ble bytes 2048=true)(D:P.underlying t=some (.slice T))(hs:oF w S)(h:(o5 mm r T l cap xs).holds base B w S)(V:base<=w.heap.size)(hsrc:Src P r.sz t' v ys.length news w)(hrc:uI r S news ys)(hz' :hU xs ys=some zs):
  ∃l' cap' w' S',(Builtin.append_ #[t,t'] ty #[aI l cap xs.length,v]).run P w= .ok (aI l' cap' zs.length) w' /\mi (fun k=>l=some k) w S w' S' /\oF w' S' /\(o5 mm r T l' cap' zs).holds base B w' S' /\(∀b,l' =some b->l=some b\/w.heap.size<=b):=by
 subst hsz;obtain⟨rfl,hlen⟩:=Xl hz';obtain⟨⟨cells,H,W,h3⟩,hbase⟩:=h;obtain⟨l',cap',w',hr,hraw,Y,hnew,hold⟩:=Hu (ty:=ty) ti hz h0 h128 D H hsrc hlen;have hrc' :uI r S (cells++news) (xs++ys):=uU W hrc;have hsat0: ∀k o,S k=some o-> ∃o',w'.heap[k]? =some o' /\MA o o' :=fun k o hk=>by
  have hlt:=hs.lt hk;by_cases hkl:l=some k
  ·obtain⟨o',e1,e2⟩:=hs k o hk;by_cases hkl' :l' =some k
   ·subst hkl';subst hkl;have h3' :=h3 k rfl
    cases mm with
    |false=>rw [h3']at hk;cases hk
    |true=>
     rw [h3']at hk;cases hk;obtain⟨cur',g1,g2,g3,g4,g5⟩:=hraw;refine⟨_,g1,?_⟩;refine⟨news++cur'.toList.drop ((xs.length+ys.length)*r.sz),?_⟩;congr 1;apply Array.ext';rw [<-jR,<-g5,vX]
   ·rw [hold k hkl hkl'];exact hs k o hk
  ·rw [Y.heap k hlt hkl];exact hs k o hk
 have hsat:oF w' S:=⟨hsat0,hs.gl,hs.tb⟩;have hSn: ∀b,l' =some b->l≠some b->S b=none:=fun b hb' hne=>by
  cases hq:S b with
  |none=>rfl
  |some q=>
   have:=hs.lt hq;rcases hnew b hb' with h|h
   ·exact absurd h hne
   ·omega
 have hbase' : ∀k,l' =some k->base<=k\/B k:=fun k hk=>by
  rcases hnew k hk with h|h
  ·exact hbase k h
  ·exact .inl (by omega)
 have hz2:(xs++ys).length=xs.length+ys.length:=nY
 cases mm with
 |false=>
  refine⟨l',cap',w',S,by rw [hz2];exact hr,⟨Y.os,Y.tape,Y.output,Y.drawn,Y.size,fun k hk hkb=>Y.heap k hk hkb,SH.le_refl _,fun _ _ _=>rfl⟩,hsat,⟨⟨cells++news,by rw [hz2];exact hraw,hrc',fun b hb' =>?_⟩,hbase'⟩,hnew⟩;by_cases hlb:l=some b
  ·exact h3 b hlb
  ·exact hSn b hb' hlb
 |true=>
  cases l' with
  |none=>
   refine⟨none,cap',w',S,by rw [hz2];exact hr,⟨Y.os,Y.tape,Y.output,Y.drawn,Y.size,fun k hk hkb=>Y.heap k hk hkb,SH.le_refl _,fun _ _ _=>rfl⟩,hsat,⟨⟨cells++news,by rw [hz2];exact hraw,hrc',fun b hb' =>(by cases hb')⟩,hbase'⟩,hnew⟩
  |some g=>
   have hq3: ∀q,S g=some q->MA q (.cells (cells++news).toArray T (0,0)):=fun q hq=>by
    by_cases hlb:l=some g
    ·have h4:S g=some (.cells cells.toArray T (0,0)):=h3 g hlb;rw [h4]at hq;cases hq;exact⟨news,by simp⟩
    ·rw [hSn g rfl hlb]at hq;cases hq
   have hle:SH.le S (S.set g (.cells (cells++news).toArray T (0,0))):=yV hq3;obtain⟨cur',g1,g2,g3,g4,g5⟩:=hraw;refine⟨some g,cap',w',S.set g (.cells (cells++news).toArray T (0,0)),by rw [hz2];exact hr,⟨Y.os,Y.tape,Y.output,Y.drawn,Y.size,fun k hk hkb=>Y.heap k hk hkb,hle,fun k hk hkb=>u5 _ _ ?_⟩,hsat.set g1 ?_ hq3,⟨⟨cells++news,by rw [hz2];exact⟨cur',g1,g2,g3,g4,g5⟩,vA hle hrc',fun b hb' =>?_⟩,hbase'⟩,hnew⟩
   ·rintro rfl;rcases hnew k rfl with h|h
    ·exact hkb h
    ·omega
   ·refine⟨cur'.toList.drop ((xs.length+ys.length)*r.sz),?_⟩;congr 1;apply Array.ext';rw [<-g5,vX]
   ·have hb2:g=b:=uK hb';subst hb2;exact pi _ _ _
def Q5{e f:OE}(h:e.apart f):f.apart e:=fun b V he=>h b he V
def gm.swap{base:Nat}{B:Nat->Prop}{e f:OE}(h:gm base B w S (e::f::aO)):gm base B w S (f::e::aO):=by
 obtain⟨H,W,h3,h4,h5⟩:=h;refine⟨h3,?_,H,?_,h5⟩
 ·intro g Y;rcases ll.1 Y with rfl|Y
  ·exact Q5 (W _ (jO ..))
  ·exact h4 g Y
 ·intro g Y;exact W g (kX _ Y)
def yX{base:Nat}{B:Nat->Prop}{e:OE}{O' :List OE}(h:gm base B w S (e::aO))(k:gm base B w S aO->gm base B w S O')(hm: ∀f∈O',f∈aO):gm base B w S (e::O'):=
 ⟨h.1,fun f hf=>h.2.1 f (hm f hf),k h.2.2⟩
def u6{base:Nat}{B:Nat->Prop}{a b c:OE}(h:gm base B w S (a::b::c::aO)):gm base B w S (c::a::b::aO):=
 (yX h gm.swap (fun f hf=>by simp only [ll]at hf ⊢;rcases hf with h|h|h<;>simp [h])).swap
def xl{base:Nat}{B:Nat->Prop}{a b c d:OE}(h:gm base B w S (a::b::c::d::aO)):gm base B w S (d::a::b::c::aO):=
 (yX h u6 (fun f hf=>by simp only [ll]at hf ⊢;rcases hf with h|h|h|h<;>simp [h])).swap
def xk{base:Nat}{B:Nat->Prop}{a b c d e:OE}(h:gm base B w S (a::b::c::d::e::aO)):gm base B w S (e::a::b::c::d::aO):=
 (yX h xl (fun f hf=>by simp only [ll]at hf ⊢;rcases hf with h|h|h|h|h<;>simp [h])).swap
section
variable{E:En}
def St.own_map{O' :List OE}(h:St E aO G a w S)(k:gm E.base E.B w S aO->gm E.base E.B w S O'):St E O' G a w S:=⟨h.ext,h.sat,k h.own,h.facts⟩
def St.base_le(h:St E aO G a w S):E.base<=w.heap.size:=h.ext.size
def St.drop{e:OE}(h:St E (e::aO) G a w S):St E aO G a w S:=h.own_map fun h=>h.2.2
def St.fresh(mm:Bool)(r:Rp α)(T:TypeId)(h:St E aO G a w S):St E (o5 mm r T none 0 []::aO) G a w S:=
 h.own_map fun h=>by refine⟨⟨⟨[],⟨rfl,rfl⟩,rfl,fun b V=>(by cases V)⟩,fun k hk=>?_⟩,fun f _ b V=>?_,h⟩<;>(first|cases hk|cases V)
def CX{e:OE}{b:Nat}{o:Obj}(h:St E (e::aO) G a w S)(V:e.fp b)(ho:w.heap[b]? =some o')(hoo:MA o o')(hn:S b=none):St E aO G a w (S.set b o)/\SH.le S (S.set b o)/\mi (fun k=>k=b) w S w (S.set b o)/\oF w (S.set b o):=by
 have hbase:=h.own.1.2 b V;have hle:SH.le S (S.set b o):=yV fun q hq=>(by rw [hn]at hq;cases hq);have hsat:oF w (S.set b o):=h.sat.set ho hoo fun q hq=>by rw [hn]at hq;cases hq
 have hext:mi (fun k=>k=b) w S w (S.set b o):=⟨rfl,rfl,rfl,kE _,kE _,fun _ _ _=>rfl,hle,fun k _ hk=>u5 _ _ hk⟩;refine⟨⟨h.ext.step hext fun c hc=>by subst hc;exact hbase,hsat,h.own.2.2.ext hext fun f hf c hc hm=>?_,h.facts.mono hle⟩,hle,hext,hsat⟩;subst hm;exact h.own.2.1 f hf c V hc
def tO{α:Type}(r:Rp α)(l:Option Nat)(cap:Nat)(xs:List α):Ty where
 p:=fun S v=>v=aI l cap xs.length/\(tD (gE r) xs).p S v
 mono:=fun h ⟨H,W⟩=>⟨H,Ty.mono _ h W⟩
def DE{N:Fr}{G:ou}{r:Rp α}(h:bk N G x (tO r l cap xs)):bk N G x (Q (aI l cap xs.length)):=fun S a hf=>(h S a hf).1
def mY{N:Fr}{G:ou}{r:Rp α}(h:bk N G x (tO r l cap xs)):bk N G x (tD (gE r) xs):=fun S a hf=>(h S a hf).2
def pN{r:Rp α}{w:World}{S:SH}(h:Dj true r T l cap xs w S):(tD (gE r) xs).p S (aI l cap xs.length):=by
 obtain⟨cells,H,W,h3⟩:=h
 cases l with
 |none=>
  have K:xs=[]:=vM H.1;subst K;exact K0
 |some b=>
  obtain⟨cur,g1,g2,g3,g4,g5⟩:=H;refine ku.2 ⟨_,cap,rfl,g2,g3,.inr ⟨b,0,cells.toArray,T,(0,0),rfl,h3 b rfl,?_⟩⟩;have:=mv W;rw [yf,yi (by simp [this])];exact W
def St.freeze{r:Rp α}(h:St E (d5 r T l cap xs::aO) G a w S):
  ∃S',St E (lP r T l cap xs::aO) G a w S' :=by
 obtain⟨⟨cells,H,W,h3⟩,hbase⟩:=h.own.1
 cases l with
 |none=>exact⟨S,h.ext,h.sat,⟨⟨⟨cells,H,W,fun b V=>(by cases V)⟩,hbase⟩,h.own.2⟩,h.facts⟩
 |some b=>
  obtain⟨cur,g1,g2,g3,g4,g5⟩:=H;have hoo:MA (.cells cells.toArray T (0,0)) (.cells cur T (0,0)):=by
   refine⟨cur.toList.drop (xs.length*r.sz),?_⟩;congr 1;apply Array.ext';rw [<-g5,vX]
  obtain⟨h8,hle,_,_⟩:=CX h rfl g1 hoo (h3 b rfl);refine⟨_,h8.ext,h8.sat,⟨⟨⟨cells,⟨cur,g1,g2,g3,g4,g5⟩,vA hle W,fun b' hb' =>?_⟩,hbase⟩,h.own.2.1,h8.own⟩,h8.facts⟩;have hb2:b=b' :=uK hb';subst hb2;exact pi _ _ _
def St.settle{r:Rp α}(h:St E (o5 mm r T l cap xs::aO) G a w S):
  ∃S',St E aO G a w S' /\(tD (gE r) xs).p S' (aI l cap xs.length):=by
 cases mm with
 |true=>exact⟨S,h.drop,pN h.own.1.1⟩
 |false=>
  obtain⟨S',H⟩:=h.freeze;exact⟨S',H.drop,pN H.own.1.1⟩
end
section
variable{E:En}{e:Exit}
def Qw{N:Fr}(h:cD N S a G)(hk:t.p S (a.tmps.getD k undef)):cD N S a ((k,t)::G):=
 ⟨h.size,h.defers,fun j u hj=>by
  unfold cX at hj;by_cases V:Nat.beq k j=true
  ·rw [V]at hj;have:=t8 V;subst this;rw [<-show t=u from by simpa using hj];exact hk
  ·rw [Dp]at V;rw [V]at hj;exact h.at_ j u hj⟩
def St.cons(h:St E aO G a w S)(hk:t.p S (a.tmps.getD k undef)):St E aO ((k,t)::G) a w S:=⟨h.ext,h.sat,h.own,Qw h.facts hk⟩
def St.tipAt{r:Rp α}{n:Nat}(h:St E (lP r T l cap xs::aO) G a w S)(hk:cX G k=some (Q (aI l cap n)))(hn:n=xs.length):
  St E (lP r T l cap xs::aO) ((k,tO r l cap xs)::G) a w S:=by
 subst hn;have hv:a.tmps.getD k undef=aI l cap xs.length:=h.facts.at_ k _ hk;exact h.cons ⟨hv,by rw [hv];exact pN h.own.1.1⟩
def cn(mm:Bool)(r:Rp α)(T:TypeId)(h:RG E ops tV rest (o5 mm r T none 0 []::aO) G):RG E ops tV rest aO G:=fun a w S st=>h a w S (st.fresh mm r T)
def aaf{f:OE}(h:RG E ops tV rest aO G):RG E ops tV rest (f::aO) G:=fun a w S st=>h a w S st.drop
def aF{f:OE}(h:AT E tV e aO G):AT E tV e (f::aO) G:=fun a w S st=>h a w S st.drop
def bf{x y:OE}(h:RG E ops tV rest (y::x::aO) G):RG E ops tV rest (x::y::aO) G:=fun a w S st=>h a w S (st.own_map gm.swap)
def ap{x y:OE}(h:AT E tV e (y::x::aO) G):AT E tV e (x::y::aO) G:=fun a w S st=>h a w S (st.own_map gm.swap)
def cd{x y z:OE}(h:RG E ops tV rest (z::x::y::aO) G):RG E ops tV rest (x::y::z::aO) G:=fun a w S st=>h a w S (st.own_map u6)
def UG{x y z:OE}(h:CG E tV c (z::x::y::aO) G):CG E tV c (x::y::z::aO) G:=fun a w S st=>h a w S (st.own_map u6)
def aP{x y z:OE}(h:AT E tV e (z::x::y::aO) G):AT E tV e (x::y::z::aO) G:=fun a w S st=>h a w S (st.own_map u6)
def dI{x y z:OE}(h:RG E ops tV rest (u::x::y::z::aO) G):RG E ops tV rest (x::y::z::u::aO) G:=fun a w S st=>h a w S (st.own_map xl)
def aZ{x y z:OE}(h:AT E tV e (u::x::y::z::aO) G):AT E tV e (x::y::z::u::aO) G:=fun a w S st=>h a w S (st.own_map xl)
def eJ{x y z v:OE}(h:RG E ops tV rest (v::x::y::z::u::aO) G):RG E ops tV rest (x::y::z::u::v::aO) G:=fun a w S st=>h a w S (st.own_map xk)
def cZ{x y z v:OE}(h:AT E tV e (v::x::y::z::u::aO) G):AT E tV e (x::y::z::u::v::aO) G:=fun a w S st=>h a w S (st.own_map xk)
def oG{f:OE}(h:LG E tV c aO G):LG E tV c (f::aO) G:=fun a w S st=>h a w S st.drop
def fT{x y:OE}(h:LG E tV c (y::x::aO) G):LG E tV c (x::y::aO) G:=fun a w S st=>h a w S (st.own_map gm.swap)
def jk{x y z:OE}(h:LG E tV c (z::x::y::aO) G):LG E tV c (x::y::z::aO) G:=fun a w S st=>h a w S (st.own_map u6)
def gB{x y z:OE}(h:LG E tV c (u::x::y::z::aO) G):LG E tV c (x::y::z::u::aO) G:=fun a w S st=>h a w S (st.own_map xl)
def qu{x y z v:OE}(h:LG E tV c (v::x::y::z::u::aO) G):LG E tV c (x::y::z::u::v::aO) G:=fun a w S st=>h a w S (st.own_map xk)
def ed{r:Rp α}(h:RG E ops tV rest (lP r T l cap xs::aO) G):RG E ops tV rest (d5 r T l cap xs::aO) G:=fun a w _ st=>let⟨S',st'⟩:=st.freeze;h a w S' st'
def cR{r:Rp α}{n:Nat}(k:Nat)(hk:cX G k=some (Q (aI l cap n)))(h:RG E ops tV rest (lP r T l cap xs::aO) ((k,tO r l cap xs)::G))(hn:n=xs.length:=by rfl):RG E ops tV rest (lP r T l cap xs::aO) G:=fun a w S st=>h a w S (st.tipAt hk hn)
def dE{r:Rp α}(h:AT E tV e (lP r T l cap xs::aO) G):AT E tV e (d5 r T l cap xs::aO) G:=fun a w _ st=>let⟨S',st'⟩:=st.freeze;h a w S' st'
def bS{r:Rp α}{n:Nat}(k:Nat)(hk:cX G k=some (Q (aI l cap n)))(h:AT E tV e (lP r T l cap xs::aO) ((k,tO r l cap xs)::G))(hn:n=xs.length:=by rfl):AT E tV e (lP r T l cap xs::aO) G:=fun a w S st=>h a w S (st.tipAt hk hn)
def bJ{r:Rp α}(hk:cX G k=some (tD (gE r) xs))(h:xs.length<=maxLen->CG E tV c aO G):CG E tV c aO G:=fun a w S st=>by
 obtain⟨_,_,_,H,W,_⟩:=ku.1 (st.facts.at_ k _ hk);exact h (z8 H W) a w S st
section
variable{ty:TypeId}
def St.append{r:Rp α}{t ty:TypeId}{sz:Nat}{agg:Bool}(ti:TI E.P T sz bytes agg z)(hsz:r.sz=sz)(hz:Nat.beq z.length sz=true)(h0:Nat.blt 0 sz=true)(h128:Nat.ble bytes 2048=true)(D:E.P.underlying t=some (.slice T))(st:St E (o5 mm r T l cap xs::aO) G a w S)(hsrc:Src E.P r.sz t' v ys.length news w)(hrc:uI r S news ys)(happ:hU xs ys=some zs):
  ∃l' cap' w' S',(Builtin.append_ #[t,t'] ty #[aI l cap xs.length,v]).run E.P w= .ok (aI l' cap' zs.length) w' /\St E (o5 mm r T l' cap' zs::aO) G a w' S' :=by
 obtain⟨l',cap',w',S',hr,hext,hsat,hh,hnew⟩:=AQ (ty:=ty) ti hsz hz h0 h128 D st.sat st.own.1 st.base_le hsrc hrc happ;refine⟨l',cap',w',S',hr,st.ext.step hext fun b V=>st.own.1.2 b V,hsat,⟨hh,fun f hf b V hfb=>?_,st.own.2.2.ext hext fun f hf b V hbl=>st.own.2.1 f hf b hbl V⟩,st.facts.mono hext.keep⟩;rcases hnew b V with h|h
 ·exact st.own.2.1 f hf b h hfb
 ·have:=f.here (gm.mem st.own.2.2 f hf).1 b hfb;omega
def St.put{d:Nat}(h:St E aO G a w S)(hd:Nat.blt d E.N.n=true)(hv:t.p S v):St E aO ((d,t)::G) (a.put (some d) v) w S:=⟨h.ext,h.sat,h.own,h.facts.put hd hv⟩
def z1{r:Rp α}{t:TypeId}{sz:Nat}{agg:Bool}{n:Nat}{u:Nat->Option Nat->Ty}(ti:TI E.P T sz bytes agg z)(hsz:r.sz=sz)(hz:Nat.beq z.length sz=true)(h0:Nat.blt 0 sz=true)(h128:Nat.ble bytes 2048=true)(D:E.P.underlying t=some (.slice T))(hd:Nat.blt d E.N.n=true)(K:bk E.N G x (Q (aI l cap n)))(hy: ∀a w S,St E (o5 mm r T l cap xs::aO) G a w S-> ∃news,Src E.P r.sz t' (a.eval y) ys.length news w/\uI r S news ys)(happ:hU xs ys=some zs)(hu: ∀l' cap' w0 S,(o5 mm r T l' cap' zs).p w0 S->(u cap' l').p S (aI l' cap' zs.length))(k: ∀l' cap',RG E ops tV rest (o5 mm r T l' cap' zs::aO) ((d,u cap' l')::G))(hn:n=xs.length):
  RG E ops tV (⟨some d,.call ⟨.builtin .append,#[x,y],#[t,t']⟩,ty,pos,after,none⟩::rest) (o5 mm r T l cap xs::aO) G:= .of rfl fun a w S st=>by
 subst hn;have H:a.eval x=aI l cap xs.length:=K S a st.facts;obtain⟨news,W,h3⟩:=hy a w S st;obtain⟨l',cap',w',S',hr,st'⟩:=st.append (ty:=ty) ti hsz hz h0 h128 D W h3 happ;have hrun:(execOp a.eval ⟨some d,.call ⟨.builtin .append,#[x,y],#[t,t']⟩,ty,pos,after,none⟩).run E.P w= .ok (.value (aI l' cap' zs.length)) w' :=by
  simp [execOp,resolve,invoke,builtin,H,hr]
 refine⟨fun c h=>(by cases h),?_⟩;rw [hrun];exact k l' cap' _ _ S' (st'.put hd (hu l' cap' w' S' st'.own.1.1))
def bA{r:Rp α}{t:TypeId}{sz:Nat}{agg:Bool}{n:Nat}(ti:TI E.P T sz bytes agg z)(hsz:r.sz=sz)(hz:Nat.beq z.length sz=true)(h0:Nat.blt 0 sz=true)(h128:Nat.ble bytes 2048=true)(D:E.P.underlying t=some (.slice T))(ht' :t' =t)(hd:Nat.blt d E.N.n=true)(K:bk E.N G x (Q (aI l cap n)))(hy:bk E.N G y (tD (gE r) ys))(happ:hU xs ys=some zs)(k: ∀l' cap',RG E ops tV rest (d5 r T l' cap' zs::aO) ((d,Q (aI l' cap' zs.length))::G))(hn:n=xs.length:=by rfl):
  RG E ops tV (⟨some d,.call ⟨.builtin .append,#[x,y],#[t,t']⟩,ty,pos,after,none⟩::rest) (d5 r T l cap xs::aO) G:=by
 subst ht';exact z1 (u:=fun cap' l' =>Q (aI l' cap' zs.length)) ti hsz hz h0 h128 D hd K (fun a w S st=>xy D st.sat (hy S a st.facts)) happ (fun _ _ _ _ _=>rfl) k hn
def nj{r:Rp α}{t:TypeId}{sz:Nat}{agg:Bool}(ti:TI E.P T sz bytes agg z)(hsz:r.sz=sz)(hz:Nat.beq z.length sz=true)(h0:Nat.blt 0 sz=true)(h128:Nat.ble bytes 2048=true)(D:E.P.underlying t=some (.slice T))(ht' :t' =t)(hd:Nat.blt d E.N.n=true)(K:bk E.N G x (tO r l cap xs))(hy:bk E.N G y (tD (gE r) ys))(happ:hU xs ys=some zs)(k: ∀l' cap',RG E ops tV rest (lP r T l' cap' zs::aO) ((d,tO r l' cap' zs)::G)):
  RG E ops tV (⟨some d,.call ⟨.builtin .append,#[x,y],#[t,t']⟩,ty,pos,after,none⟩::rest) (lP r T l cap xs::aO) G:=by
 subst ht';exact z1 (u:=fun cap' l' =>tO r l' cap' zs) ti hsz hz h0 h128 D hd (DE K) (fun a w S st=>xy D st.sat (hy S a st.facts)) happ (fun _ _ _ _ h=>⟨rfl,pN h⟩) k rfl
def Rc{t:TypeId}{agg:Bool}{n:Nat}{xs zs:List Int}(ti:TI E.P T 1 bytes agg z)(hz:Nat.beq z.length 1=true)(h128:Nat.ble bytes 2048=true)(D:E.P.underlying t=some (.slice T))(ht' :E.P.underlying t' =some .string)(hd:Nat.blt d E.N.n=true)(K:bk E.N G x (Q (aI l cap n)))(hy:bk E.N G y (tD rS bx))(happ:hU xs (oE bx)=some zs)(k: ∀l' cap',RG E ops tV rest (d5 (rI .u8) T l' cap' zs::aO) ((d,Q (aI l' cap' zs.length))::G))(hn:n=xs.length:=by rfl):
  RG E ops tV (⟨some d,.call ⟨.builtin .append,#[x,y],#[t,t']⟩,ty,pos,after,none⟩::rest) (d5 (rI .u8) T l cap xs::aO) G:=
 z1 (r:=rI .u8) (u:=fun cap' l' =>Q (aI l' cap' zs.length)) ti rfl hz rfl h128 D hd K (fun a w S st=>Pu ht' (hy S a st.facts)) happ (fun _ _ _ _ _=>rfl) k hn
end
end
def Ek(off:Nat): ∀(cs:List Value) (k:Nat) (pre mid post:List Value),mid.length=cs.length->pre.length=off+k->
  (cs.zipIdx k).foldl (fun(a:Array Value) x=>a.setIfInBounds (off+x.2) x.1) (pre++mid++post).toArray=(pre++cs++post).toArray
 |[],k,pre,mid,post,hm,_=>by
  have:mid=[]:=vM hm;subst this;simp
 |c::cs,k,pre,mid,post,hm,hp=>by
  cases mid with
  |nil=>simp at hm
  |cons m mid=>
   simp only [List.zipIdx_cons,List.foldl_cons];have H:(pre++(m::mid)++post).toArray.setIfInBounds (off+k) c=((pre++[c])++mid++post).toArray:=by
    rw [<-hp];simp
   rw [H,Ek off cs (k+1) (pre++[c]) mid post (by simpa using hm) (by simp;omega)];simp
def DF(v:Value)(off:Nat)(pre mid post:List Value)(hm:mid.length=v.cells.size)(hp:pre.length=off):
  v.cells.zipIdx.foldl (fun cs (x:Value×Nat)=>cs.setIfInBounds (off+x.2) x.1) (pre++mid++post).toArray=(pre++v.cells.toList++post).toArray:=by
 have:=Ek off v.cells.toList 0 pre mid post (by simpa using hm) (by simpa using hp);rw [<-this,<-Array.foldl_toList];simp [Array.toList_zipIdx]
def yB{r:Rp α}{x:α}(h:r.rc S cs x):(r.val cs).cells=cs.toArray:=by
 unfold Rp.val
 cases ha:r.agg with
 |true=>simp [Value.cells]
 |false=>
  have hl:=r.len h;rw [r.sc ha]at hl
  match cs,hl with
  |[c],_=>
   have:=r.one h c (by simp);cases c<;>simp_all [Value.cells,Value.oneCell']
def FQ:Nat->List Value->List (Nat×Value)
 |_,[]=>[]
 |k,v::vs=>(k,v)::FQ (k+1) vs
def Ic{α:Type}{r:Rp α}{S:SH}: ∀(ys:List α) (vs:List Value) (k:Nat) (pre zs:List Value),Au S (ys.map (tD r)) vs->pre.length=k*r.sz->zs.length=ys.length*r.sz->
  ∃cs,uI r S cs ys/\Instr.fill (fun i=>some (i*r.sz,r.sz)) (pre++zs).toArray (FQ k vs)=some (pre++cs).toArray
 |[],[],k,pre,zs,_,_,hz=>by
  have:zs=[]:=vM (by simpa using hz);subst this;exact⟨[],rfl,by simp [FQ,Instr.fill]⟩
 |y::ys,v::vs,k,pre,zs,⟨⟨c,e,hc⟩,W⟩,hp,hz=>by
  have hl:=r.len hc;have hz' :r.sz<=zs.length:=by rw [hz,jl,Av];omega
  have e1:zs=zs.take r.sz++zs.drop r.sz:=(vX _ _).symm;have hcells:v.cells=c.toArray:=by rw [e];exact yB hc
  obtain⟨cs,h3,h4⟩:=Ic ys vs (k+1) (pre++c) (zs.drop r.sz) W (by rw [nY,hp,hl,Av];omega) (by rw [Ao,hz,jl,Av];omega);refine⟨c++cs,⟨c,cs,rfl,hc,h3⟩,?_⟩;have hs:v.cells.size=r.sz:=by rw [hcells];simpa using hl
  have hcond: ¬((v.cells.size≠r.sz)\/(k*r.sz+v.cells.size>(pre++zs).toArray.size)):=by
   simp [hs];omega
  have h5:=DF v (k*r.sz) pre (zs.take r.sz) (zs.drop r.sz) (by simp [hs];omega) hp;rw [jR,<-e1]at h5;simp only [FQ,Instr.fill];rw [bB (by simpa using hcond)];rw [h5,hcells];simpa using h4
def CC:Nat->List Operand->List (Nat×Operand)
 |_,[]=>[]
 |k,v::vs=>(k,v)::CC (k+1) vs
def Fl(ρ:Operand->Value): ∀(k:Nat) (xs:List Operand),(CC k xs).map (fun x=>(x.1,ρ x.2))=FQ k (xs.map ρ)
 |_,[]=>rfl
 |k,x::xs=>by simp [CC,FQ,Fl ρ (k+1) xs]
section
variable{E:En}{ty:TypeId}
def AP{P:Program}{r:Rp α}{xs:List Operand}{ρ:Operand->Value}{t:TypeId}{n sz:Nat}{agg:Bool}(D:P.underlying t=some (.slice T))(ti:TI P T sz bytes agg z)(hsz:r.sz=sz)(hn:n=ys.length)(V:Nat.ble (n*sz) 16777216=true)(K:Au S (ys.map (tD r)) (xs.map ρ))(w:World):
  ∃cs,uI r S cs ys/\(Instr.buildSlice t n ((CC 0 xs).toArray.map fun x=>(x.1,ρ x.2))).run P w= .ok (.slice (some ⟨w.heap.size,0,none⟩) n n) (w.alloc (.cells cs.toArray T (0,0))):=by
 subst hsz;have hb' :=vq V;obtain⟨zv,hzr,_⟩:=ti.zero w;obtain⟨cs,hc,hfill⟩:=Ic ys (xs.map ρ) 0 [] ((Array.range (n*r.sz)).map (fun i=>(if n*r.sz=0 then #[]else zv.cells)[i%(if n*r.sz=0 then #[]else zv.cells).size]!)).toList K (by simp) (by simp [hn]);refine⟨cs,hc,?_⟩;have hparts:((CC 0 xs).toArray.map fun x=>(x.1,ρ x.2)).toList=FQ 0 (xs.map ρ):=by simp [Fl]
 simp only [pM,Array.toArray_toList]at hfill;have hle: ¬(n*r.sz>2^24):=by omega
 by_cases hn0:n*r.sz=0
 ·simp only [hn0,gQ]at hfill;simp only [Instr.buildSlice,Am,mb D,Cc,ti.sizeOf,Sem.run_ite,hn0,gQ,Sem.run_pure,hparts,hfill];simp [newRow]
 ·simp only [hn0,hX]at hfill;simp only [Instr.buildSlice,Am,mb D,Cc,ti.sizeOf,Sem.run_ite,hle,hX,hn0,Sem.run_pure,hzr,hparts,hfill];simp [newRow]
def aT{r:Rp α}{xs:List Operand}{parts:List (Nat×Operand)}{t:TypeId}{n sz:Nat}{agg:Bool}(D:E.P.underlying t=some (.slice T))(ti:TI E.P T sz bytes agg z)(hsz:r.sz=sz)(h0:Nat.blt 0 sz=true)(hp:parts=CC 0 xs)(hn:n=ys.length)(V:Nat.ble (n*sz) 16777216=true)(K:nD E.N G xs (ys.map (tD r))):dw E aO G ⟨dst,.buildSlice t n parts.toArray,ty,pos,after,g⟩ (tD (gE r) ys):=
 .of_run fun a w S hs _ hf=>by
  obtain⟨cs,hc,hr⟩:=AP D ti hsz hn V (K.tys hf) w;subst hsz;have hb' :=vq V;have h0' :0<r.sz:=by simpa [ye] using h0
  have hnle:n<=n*r.sz:=Nat.le_mul_of_pos_right n h0';obtain⟨he,hs'⟩:=yd (w:=w) (.cells cs.toArray T (0,0)) hs;have hcl:=mv hc;refine⟨.slice (some ⟨w.heap.size,0,none⟩) n n,_,_,?_,he,hs',ku.2 ⟨_,n,by rw [hn],by omega,by simp only [maxLen];omega,.inr ⟨w.heap.size,0,cs.toArray,T,(0,0),rfl,by simp [SH.set],?_⟩⟩⟩
  ·subst hp;simp only [execOp,Am,hr,Cc,Sem.run_pure]
  ·have:uI r (S.set w.heap.size (.cells cs.toArray T (0,0))) cs ys:=vA he.keep hc;simpa [<-hcl] using this
def VL{r:Rp α}{v:α}(K:bk E.N G x (tD r v)):dw E aO G ⟨dst,.box T x,ty,pos,after,g⟩ (da r v):=
 .of_run fun a w S hs _ hf=>by
  obtain⟨cs,hv,hc⟩:=K S a hf;obtain⟨he,hs'⟩:=yd (w:=w) (.cells cs.toArray T (0,0)) hs;refine⟨.pointer (some ⟨w.heap.size,0,none⟩),_,_,?_,he,hs',w.heap.size,0,cs.toArray,T,(0,0),rfl,by simp [SH.set],?_⟩
  ·simp [execOp,Instr.box,newVar,newRow,hv,yB hc]
  ·have:=r.mono he.keep hc;have hl:=r.len hc;simpa [<-hl] using this
end
def rM(c:Bool)(t:Ty):Ty where
 p:=fun S v=>if c=true then t.p S v else v=undef
 mono:=fun h k=>by
  split
  ·rename_i hc;rw [bM hc]at k;exact t.mono h k
  ·rename_i hc;rw [bB hc]at k;exact k
variable{gs:Nat}{pol:Bool}
section
variable{E:En}
def bg{N:Fr}{c:Bool}(h:cX G k=some (rM c t))(hc:c=true):bk N G (.tmp k) t:=fun _ _ hF=>by
 have W:if c=true then t.p _ (Act.eval _ (.tmp k))else _=undef:=hF.at_ k _ h;rw [bM hc]at W;exact W
def xQ(c b:Bool):Ty:=rM c (tD rB b)
def tP(h:cX G k=some (tD rB b)):bk E.N G (.tmp k) (xQ true b):=fun _ _ hF=>by
 have W:(tD rB b).p _ (Act.eval _ (.tmp k)):=hF.at_ k _ h;simp only [xQ,rM,gQ];exact W
def Fc{c:Bool}(h:cX G k=some (rM c (tD rB b))):bk E.N G (.tmp k) (xQ c b):=fun _ _ hF=>hF.at_ k _ h
def wK{c:Bool}(Y:o.guard=some (j,pol))(hj:(ops[j]?).bind (·.dst)=some gs)(hn:gs<a.tmps.size)(hv:(xQ c b).p S (a.tmps.getD gs undef)):
  Region.wanted o (yielded ops a.tmps)=(c&&(b==pol)):=by
 have hget:a.tmps[gs]? =some (a.tmps.getD gs undef):=by
  rw [KM,Array.getElem?_eq_getElem hn];rfl
 unfold Region.wanted;rw [Y];simp only [yielded,hj,bz,hget]
 cases c with
 |true=>
  have:a.tmps.getD gs undef= .bool b:=ko.1 (by simpa [xQ,rM] using hv);rw [this];cases b<;>cases pol<;>rfl
 |false=>
  have:a.tmps.getD gs undef=undef:=by simpa [xQ,rM] using hv
  rw [this];cases pol<;>rfl
def Mq{c:Bool}{op:Op}{ty:TypeId}(hj:(ops[j]?).bind (·.dst)=some gs)(hgs:Nat.blt gs E.N.n=true)(Y:bk E.N G (.tmp gs) (xQ c b))(hd:Nat.blt d E.N.n=true)(h:(c&&(b==pol))=true->dw E aO G ⟨some d,op,ty,pos,after,some (j,pol)⟩ t)(k:RG E ops tV rest aO ((d,rM (c&&(b==pol)) t)::G)):
  RG E ops tV (⟨some d,op,ty,pos,after,some (j,pol)⟩::rest) aO G:=fun a w S st=>by
 have hgs' :gs<a.tmps.size:=by rw [st.facts.size];simpa [ye] using hgs
 have hw:=wK (o:=⟨some d,op,ty,pos,after,some (j,pol)⟩) rfl hj hgs' (Y S a st.facts);refine wpListIn_step fun hx hK=>?_;rw [hw];by_cases hc:(c&&(b==pol))=true
 ·rw [bM hc];refine nK (fun a' w' ⟨v,S',ha,he,hs,hv⟩=>?_) (h hc a w S st.sat st.own st.facts);subst ha;refine hK _ _ (k _ _ _ (st.step he hs hd ?_));simpa only [rM,hc,gQ] using hv
 ·rw [bB hc];refine⟨fun _ _=>trivial,hK _ _ (k _ _ S (st.step (mi.refl _ _ _) st.sat hd ?_))⟩;show if _ then _ else _;rw [bB hc]
end
structure Nd where
 slot:Nat
 ty:Ty
 src:Option Nat
def cr(E:En)(aO:List OE)(ops:Array Oper)(need:ou)(o:Oper)(t:Ty):Prop:=
 ∀a w S,oF w S->gm E.base E.B w S aO->cD E.N S a need->
  if Region.wanted o (yielded ops a.tmps)then NQ E.P o a w (fun a' w' => ∃v S',a' =a.put o.dst v/\mi xM w S w' S' /\oF w' S' /\t.p S' v)else t.p S undef
def lg:List Nd->ou
 |[]=>[]
 |n::l=>(n.slot,n.ty)::lg l
def FE(o:Oper)(j:Nat):Bool:=o.after.toList.any fun e=>Nat.beq e.on j&&Region.binds .any e
def sH(l:List Oper)(o:Oper)(i:Nat)(n:Nd):Bool:=
 match n.src with
 |some j=>(match l[j]? with|some p=>(match p.dst with|some d=>Nat.beq d n.slot|none=>false)|none=>false)&&FE o j
 |none=>l.all fun p=>(match p.dst with|some d=> !(Nat.beq d n.slot)|none=>true)||FE p i
def Ci(G:ou)(ts:List Ty)(n:Nd):Prop:=
 match n.src with
 |some j=>ts[j]? =some n.ty
 |none=>cX G n.slot=some n.ty
def vJ(G:ou)(ts:List Ty):List Nd->Prop
 |[]=>True
 |n::l=>Ci G ts n/\vJ G ts l
def vJ.mem: ∀{l:List Nd},vJ G ts l-> ∀n∈l,Ci G ts n
 |_::_,⟨h,_⟩,_,.head _=>h
 |_::_,⟨_,h⟩,_,.tail _ hm=>vJ.mem h _ hm
def Z4(o:Oper):Nat:=o.dst.getD 0
def gr(i:Nat)(o:Oper):Bool:=o.after.toList.all fun e=> !(Region.binds .any e)||Nat.blt e.on i
def DR(E:En)(aO:List OE)(G:ou)(l:List Oper)(ts:List Ty):Nat->List Oper->Prop
 |_,[]=>True
 |i,o::rest=>(∃(needs:List Nd) (t:Ty),ts[i]? =some t/\vJ G ts needs/\(needs.all (sH l o i))=true/\gr i o=true/\cr E aO l.toArray (lg needs) o t)/\DR E aO G l ts (i+1) rest
def zh(N:Nat):List Nat->List Oper->Bool
 |_,[]=>true
 |seen,o::rest=>(match o.dst with|some d=>Nat.blt d N&& !(seen.any (Nat.beq d))&&zh N (d::seen) rest|none=>false)
def agV(E:En)(aO:List OE)(G:ou)(l:List Oper)(ts:List Ty)(i:Nat)(o:Oper):Prop:=
 ∃(needs:List Nd) (t:Ty),ts[i]? =some t/\vJ G ts needs/\(needs.all (sH l o i))=true/\gr i o=true/\cr E aO l.toArray (lg needs) o t
def DR.get{E:En}{l:List Oper}(r:List Oper): ∀(k:Nat),DR E aO G l ts k r-> ∀(j:Nat) (o:Oper),r[j]? =some o->agV E aO G l ts (k+j) o:=by
 induction r with
 |nil=>intro k _ j o h;simp at h
 |cons p r ih=>
  intro k h j o ho
  cases j with
  |zero=>simp at ho;subst ho;exact h.1
  |succ j=>
   have:=ih (k+1) h.2 j o (by simpa using ho)
   rwa [show k+1+j=k+(j+1)from by omega]at this
def AJ{N:Nat}(l:List Oper): ∀(seen:List Nat),zh N seen l=true->
  (∀o:Oper,o∈l-> ∃d,o.dst=some d/\d<N/\d∉seen)/\ ∀(i j:Nat) (o p:Oper),l[i]? =some o->l[j]? =some p->o.dst=p.dst->i=j:=by
 induction l with
 |nil=>exact fun _ _=>⟨fun _ h=>(by cases h),fun _ _ _ _ h=>(by simp at h)⟩
 |cons o l ih=>
  intro seen h;unfold zh at h
  cases hd:o.dst with
  |none=>rw [hd]at h;cases h
  |some d=>
   rw [hd]at h;simp only [nw,Cn]at h;obtain⟨⟨H,W⟩,h3⟩:=h;have h2' :d∉seen:=fun hm=>by
    rw [List.any_eq_false]at W;exact W d hm (by simp)
   obtain⟨ih1,ih2⟩:=ih _ h3;refine⟨fun q hq=>?_,fun i j q p hi hj hdp=>?_⟩
   ·rcases ll.1 hq with rfl|hq
    ·exact⟨d,hd,by simpa [ye] using H,h2'⟩
    ·obtain⟨d',e1,e2,e3⟩:=ih1 q hq;exact⟨d',e1,e2,fun hm=>e3 (kX _ hm)⟩
   ·cases i with
    |zero=>
     cases j with
     |zero=>rfl
     |succ j=>
      simp at hi hj;subst hi;obtain⟨d',e1,_,e3⟩:=ih1 p (t7 hj);rw [hd,e1]at hdp;have e4:d=d' :=by simpa using hdp
      exact absurd (by rw [e4];exact jO ..) e3
    |succ i=>
     cases j with
     |zero=>
      simp at hi hj;subst hj;obtain⟨d',e1,_,e3⟩:=ih1 q (t7 hi);rw [hd,e1]at hdp;have e4:d' =d:=by simpa using hdp
      exact absurd (by rw [e4];exact jO ..) e3
     |succ j=>rw [ih2 i j q p (by simpa using hi) (by simpa using hj) hdp]
structure DJ(E:En)(aO:List OE)(G:ou)(l:List Oper)(ts:List Ty)(done:Array Bool)(a:Act)(w:World)(S:SH):Prop where
 ext:mi E.B E.w0 E.S0 w S
 sat:oF w S
 own:gm E.base E.B w S aO
 size:a.tmps.size=E.N.n
 defers:a.defers=E.N.ds
 dsz:done.size=l.length
 down: ∀j o,l[j]? =some o->done.getD j false=true-> ∀e∈o.after,Region.binds .any e=true->done.getD e.on false=true
 old: ∀k t,cX G k=some t->(∀j o,l[j]? =some o->done.getD j false=true->o.dst≠some k)->t.p S (a.tmps.getD k undef)
 new: ∀j o d t,l[j]? =some o->done.getD j false=true->o.dst=some d->ts[j]? =some t->t.p S (a.tmps.getD d undef)
variable{done:Array Bool}
def DJ.need{E:En}{l:List Oper}(h:DJ E aO G l ts done a w S)(hi:l[i]? =some o)(hun:done.getD i true=false)(hwait: ∀e∈o.after,Region.binds .any e=true->done.getD e.on false=true){needs:List Nd}(H:vJ G ts needs)(W:(needs.all (sH l o i))=true):cD E.N S a (lg needs):=by
 have hlt:i<done.size:=by rw [h.dsz];exact(vK.1 hi).1
 have hun' :done.getD i false=false:=by
  simp [hlt]at hun ⊢;exact hun
 refine⟨h.size,h.defers,?_⟩;have key: ∀n∈needs,n.ty.p S (a.tmps.getD n.slot undef):=by
  intro n hn;have hs:=mI.1 W n hn;have ho:=H.mem n hn;unfold sH at hs;unfold Ci at ho
  cases hsrc:n.src with
  |some j=>
   rw [hsrc]at hs ho;simp only [nw]at hs;obtain⟨hs1,hs2⟩:=hs
   cases hj:l[j]? with
   |none=>rw [hj]at hs1;cases hs1
   |some p=>
    rw [hj]at hs1
    cases hd:p.dst with
    |none=>simp only [hd]at hs1;cases hs1
    |some d=>
     simp only [hd]at hs1;have hd' :=t8 hs1;subst hd';have hdone:done.getD j false=true:=by
      unfold FE at hs2;obtain⟨e,he0,V⟩:=GK.1 hs2;have he:e∈o.after:=by simpa using he0
      simp only [nw]at V;have:=hwait e he V.2
      rwa [t8 V.1]at this
     exact h.new j p n.slot n.ty hj hdone hd ho
  |none=>
   rw [hsrc]at hs ho;refine h.old _ _ ho fun j p hj hdone hd=>?_;have:=mI.1 hs p (t7 hj);simp only [hd,Nat.beq_refl,uc,ta]at this;unfold FE at this;obtain⟨e,he0,V⟩:=GK.1 this;have he:e∈p.after:=by simpa using he0
   simp only [nw]at V;have h3:=h.down j p hj hdone e he V.2;rw [t8 V.1]at h3;rw [h3]at hun';cases hun'
 clear H W;intro k t hk
 induction needs with
 |nil=>simp [lg,cX]at hk
 |cons n needs ih=>
  unfold lg cX at hk;by_cases V:Nat.beq n.slot k=true
  ·rw [V]at hk;have:=t8 V;subst this;have e:n.ty=t:=by simpa using hk
   rw [<-e];exact key n (jO ..)
  ·rw [Dp]at V;rw [V]at hk;exact ih (fun m hm=>key m (kX _ hm)) hk
def PW:List Oper->List Ty->ou->ou
 |o::l,t::ts,G=>(Z4 o,t)::PW l ts G
 |_,_,G=>G
def Kf(l:List Oper): ∀(ts:List Ty) (k:Nat) (t:Ty),(∀o:Oper,o∈l->o.dst≠none)->ts.length=l.length->cX (PW l ts G) k=some t->
  (∃(j:Nat) (o:Oper),l[j]? =some o/\o.dst=some k/\ts[j]? =some t)\/(cX G k=some t/\ ∀o:Oper,o∈l->o.dst≠some k):=by
 induction l with
 |nil=>
  intro ts k t _ hl h;have:ts=[]:=vM (by simpa using hl);subst this;exact .inr ⟨h,fun _ h=>(by cases h)⟩
 |cons o l ih=>
  intro ts k t hne hl h
  cases ts with
  |nil=>simp at hl
  |cons u ts=>
   unfold PW cX at h;by_cases V:Nat.beq (Z4 o) k=true
   ·rw [V]at h;have hk:=t8 V;refine .inl ⟨0,o,rfl,?_,by simpa using h⟩
    cases hd:o.dst with
    |none=>exact absurd hd (hne o (jO ..))
    |some d=>simp only [Z4,hd,Option.getD_some]at hk;rw [hk]
   ·rw [Dp]at V;rw [V]at h;rcases ih ts k t (fun p hp=>hne p (kX _ hp)) (by simpa using hl) h with⟨j,p,H,W,h3⟩|⟨H,W⟩
    ·exact .inl ⟨j+1,p,by simpa using H,W,by simpa using h3⟩
    ·refine .inr ⟨H,fun p hp hd=>?_⟩;rcases ll.1 hp with rfl|hp
     ·simp [Z4,hd]at V
     ·exact W p hp hd
def xJ(hd:d<a.tmps.size):(a.put (some d) v).tmps.getD k undef=if d=k then v else a.tmps.getD k undef:=by
 by_cases h:d=k
 ·subst h;simp [Act.put,KM,hd]
 ·simp [Act.put,KM,h]
def DJ.step{E:En}{l:List Oper}(h:DJ E aO G l ts done a w S)(hsl:zh E.N.n [] l=true)(hi:l[i]? =some o)(hwait: ∀e∈o.after,Region.binds .any e=true->done.getD e.on false=true)(D:ts[i]? =some t)(hun:done.getD i true=false)(hext:mi xM w S w' S')(hsat:oF w' S')(hv:t.p S' v):DJ E aO G l ts (done.setIfInBounds i true) (a.put o.dst v) w' S' :=by
 obtain⟨hs1,hs2⟩:=AJ l [] hsl;obtain⟨d,hd,hdN,_⟩:=hs1 o (t7 hi);have hda:d<a.tmps.size:=by rw [h.size];exact hdN
 have hlt:i<done.size:=by rw [h.dsz];exact(vK.1 hi).1
 have hset: ∀j,(done.setIfInBounds i true).getD j false=true->j=i\/done.getD j false=true:=fun j hj=>by
  by_cases hij:i=j
  ·exact .inl hij.symm
  ·rw [z7 false hij]at hj;exact .inr hj
 have hseti:(done.setIfInBounds i true).getD i false=true:=by simp [hlt]
 have hun' :done.getD i false=false:=by simp [hlt]at hun ⊢;exact hun
 refine⟨h.ext.step0 hext,hsat,h.own.ext0 hext,?_,?_,by simp [h.dsz],fun j p hj hdone e he V=>?_,fun k u hk hno=>?_,fun j p d' u hj hdone hd' hu=>?_⟩
 ·rw [hd];simp [Act.put,h.size]
 ·rw [hd];exact h.defers
 ·rcases hset j hdone with rfl|hj'
  ·rw [hi]at hj;have:o=p:=by simpa using hj
   subst this;exact B9 (hwait e he V)
  ·exact B9 (h.down j p hj hj' e he V)
 ·have hne:d≠k:=fun e=>hno i o hi hseti (by rw [hd,e]);rw [hd,xJ hda,bB hne];exact u.mono hext.keep (h.old k u hk fun j p hj hdone=>hno j p hj (B9 hdone))
 ·rw [hd,xJ hda];rcases hset j hdone with rfl|hj'
  ·rw [hi]at hj;have:o=p:=by simpa using hj
   subst this;rw [hd]at hd';have:d=d' :=by simpa using hd'
   subst this;rw [bM rfl];rw [D]at hu;have:t=u:=by simpa using hu
   subst this;exact hv
  ·have hne:d≠d' :=fun e=>by
    subst e;have:=hs2 i j o p hi hj (by rw [hd,hd']);subst this;rw [hj']at hun';cases hun'
   rw [bB hne];exact u.mono hext.keep (h.new j p d' u hj hj' hd' hu)
def ON{l:List Oper}{done:Array Bool}(hsz:done.size=l.length)(hedge: ∀i o,l[i]? =some o->gr i o=true)(hr:Region.ready .any l.toArray done=[]): ∀n i,i<n->i<l.length->done.getD i false=true
 |0,i,h,_=>by omega
 |n+1,i,h,hi=>by
  have ih:=ON hsz hedge hr n;by_cases hd:done.getD i true=true
  ·have:i<done.size:=by omega
   simp [this]at hd ⊢;exact hd
  ·exfalso;have hmem:i∈Region.ready .any l.toArray done:=by
    rw [wI];refine⟨by simpa using hd,l[i],by simp [hi],fun e he V=>?_⟩;have:=hedge i l[i] (by simp [hi]);unfold gr at this;have:=mI.1 this e (by simpa using he);simp only [V,uc,ta,ye]at this;exact ih e.on (by omega) (by omega)
   rw [hr]at hmem;cases hmem
def nZ(done:Array Bool):Nat:=done.toList.countP (· ==false)
def uN(h:done.getD i true=false):nZ (done.setIfInBounds i true)+1=nZ done:=by
 have hlt:i<done.size:=by
  rcases pj i done.size with h' |h'
  ·exact h'
  ·simp [Array.getElem?_eq_none h']at h
 have hv:done[i]=false:=by simpa [hlt] using h
 unfold nZ;rw [Array.toList_setIfInBounds,List.countP_set (by simpa using hlt)];have W:(done.toList[i]'(by simpa using hlt))=false:=by simpa using hv
 have hpos:0<done.toList.countP (· ==false):=List.countP_pos_iff.2 ⟨done.toList[i]'(by simpa using hlt),Jy _,by rw [W];rfl⟩;rw [W,bM (show(false==false)=true from rfl),bB (show¬((true==false)=true) by decide)];omega
def Pk{E:En}{l:List Oper}(hsl:zh E.N.n [] l=true)(hd:DR E aO G l ts 0 l)(hQ: ∀done a w S,DJ E aO G l ts done a w S->(∀i,i<l.length->done.getD i false=true)->tV .normal a w):
  ∀(fuel:Nat) (done:Array Bool) (a:Act) (w:World) (S:SH),nZ done=fuel->DJ E aO G l ts done a w S->wpAnyIn (fw E.r) 0 E.P .any l.toArray tV fuel done a w:=by
 have hedge: ∀i o,l[i]? =some o->gr i o=true:=fun i o hi=>by
  obtain⟨_,_,_,_,_,h,_⟩:=DR.get l 0 hd i o hi;simpa using h
 have fin: ∀done a w S,DJ E aO G l ts done a w S->Region.ready .any l.toArray done=[]->tV .normal a w:=fun done a w S h hr=>
  hQ done a w S h fun i hi=>ON h.dsz hedge hr (i+1) i (by omega) hi
 intro fuel
 induction fuel with
 |zero=>
  intro done a w S hu h;have hr:Region.ready .any l.toArray done=[]:=by
   cases hr:Region.ready .any l.toArray done with
   |nil=>rfl
   |cons i r=>
    have hm:i∈Region.ready .any l.toArray done:=by rw [hr];exact jO ..
    have:=uN (wI.1 hm).1;omega
  exact⟨hr,fin done a w S h hr⟩
 |succ fuel ih=>
  intro done a w S hu h;refine⟨fin done a w S h,fun i hi=>?_⟩;obtain⟨hun,o,ho,hwait⟩:=wI.1 hi;have ho' :l[i]? =some o:=by simpa using ho
  obtain⟨needs,t,H,W,h3,_,h5⟩:=DR.get l 0 hd i o ho';rw [yA]at H h3;have hF:=h.need ho' hun hwait W h3;have h6:=h5 a w S h.sat h.own hF;have hu' :nZ (done.setIfInBounds i true)=fuel:=by have:=uN hun;omega
  unfold wpOpIn;rw [ho];show if _ then _ else _;by_cases hw:Region.wanted o (yielded l.toArray a.tmps)=true
  ·rw [bM hw]at h6 ⊢;refine nK (fun a' w' ⟨v,S',ha,he,hs,hv⟩=>?_) h6;subst ha;exact ih _ _ _ S' hu' (h.step hsl ho' hwait H hun he hs hv)
  ·rw [bB hw]at h6 ⊢;exact⟨fun _ _=>trivial,ih _ _ _ S hu' (h.step hsl ho' hwait H hun (mi.refl _ _ _) h.sat h6)⟩
section
variable{E:En}
def ga{id:Nat}{l:List Oper}(hm:E.P.follows .mixedOrders=true)(hsl:zh E.N.n [] l=true)(hlen:ts.length=l.length)(hd:DR E aO G l ts 0 l)(k:AT E tV .normal aO (PW l ts G)):
  CG E tV (.region id l.toArray true) aO G:=fun a w S st=>by
 refine wpIn_region_any hm ?_;obtain⟨he,hs⟩:=Bw (w:=w) st.sat;refine Pk hsl hd (fun done a w S h hall=>k a w S ⟨h.ext,h.sat,h.own,h.size,h.defers,fun j t hj=>?_⟩) _ _ _ _ S ?_
  ⟨st.ext.step0 he,hs,st.own.ext0 he,st.facts.size,st.facts.defers,by simp,fun j o hj hdone=>?_,fun k t hk _=>st.facts.at_ k t hk,fun j o d t hj hdone=>?_⟩
 ·obtain⟨hs1,_⟩:=AJ l [] hsl;rcases Kf l ts j t (fun o ho e=>by obtain⟨d,hd,_⟩:=hs1 o ho;rw [hd]at e;cases e) hlen hj with⟨i,o,H,W,h3⟩|⟨H,W⟩
  ·exact h.new i o j t H (hall i (vK.1 H).1) W h3
  ·exact h.old j t H fun i o ho _=>W o (t7 ho)
 ·unfold nZ;rw [Ro,Rj];simp
 ·simp [CL]at hdone;split at hdone<;>simp at hdone
 ·simp [CL]at hdone;split at hdone<;>simp at hdone
def af{need:ou}(Y:o.guard=none)(h:dw E aO need o t):cr E aO ops need o t:=fun a w S hs ho hf=>by
 have:Region.wanted o (yielded ops a.tmps)=true:=by unfold Region.wanted;rw [Y]
 rw [this,bM rfl];exact h a w S hs ho hf
def FZ{l:List Oper}{need:ou}{c:Bool}(Y:o.guard=some (j,pol))(hj:((l.toArray)[j]?).bind (·.dst)=some gs)(hgs:Nat.blt gs E.N.n=true)(V:bk E.N need (.tmp gs) (xQ c b))(h:(c&&(b==pol))=true->dw E aO need o t):cr E aO l.toArray need o (rM (c&&(b==pol)) t):=fun a w S hs ho hf=>by
 have hw:=wK (ops:=l.toArray) Y hj (by rw [hf.size];simpa [ye] using hgs) (V S a hf);rw [hw];by_cases hc:(c&&(b==pol))=true
 ·rw [bM hc];refine qn (fun a' w' ⟨v,S',ha,he,hs,hv⟩=>⟨v,S',ha,he,hs,?_⟩) (h hc a w S hs ho hf);show if _ then _ else _;rw [bM hc];exact hv
 ·rw [bB hc];show if _ then _ else _;rw [bB hc]
end
variable{α0 α1 α2 α3 α4:Type}{Gf:α0->α1->α2->α3->α4->ou}{Of:α0->α1->α2->α3->α4->List OE}{α5 α6 α7 α8:Type}
section
variable{E:En}
def UJ{id:Nat}{aH:Prop}{Of:List OE}{Gf:ou}(hK:aH->AT E tV .normal (Of) (Gf))(h:(aH->AT E tV .normal (Of) (Gf))->CG E (Exit.inBlock id tV) c aO G):CG E tV (.block id c) aO G:=ak (h hK)
def UF{x y:Code}{aH:Prop}{Of:List OE}{Gf:ou}(hK:aH->CG E tV y (Of) (Gf))
  (h:(aH->AT E (Exit.then (y.wpIn (fw E.r) 0 E.P tV) tV) .normal (Of) (Gf))->CG E (Exit.then (y.wpIn (fw E.r) 0 E.P tV) tV) x aO G):CG E tV (.seq x y) aO G:=aS (h (fun hz=>hK hz))
def B6{aH:Nat->α0->Prop}{Of:α0->List OE}{Gf:α0->ou}(h0: ∀x0,aH 0 x0->False)(h: ∀n,(∀x0,aH n x0->LG E tV c (Of x0) (Gf x0))-> ∀x0,aH (n+1) x0->LG E tV c (Of x0) (Gf x0)): ∀n,∀x0,aH n x0->LG E tV c (Of x0) (Gf x0)
 |0=>fun x0 hz=>(h0 x0 hz).elim
 |n+1=>h n (B6 h0 h n)
def f0{aH:List β->α0->Prop}{Of:List β->α0->List OE}{Gf:List β->α0->ou}(h0: ∀x0,aH [] x0->LG E tV c (Of [] x0) (Gf [] x0))(h: ∀b l,(∀x0,aH l x0->LG E tV c (Of l x0) (Gf l x0))-> ∀x0,aH (b::l) x0->LG E tV c (Of (b::l) x0) (Gf (b::l) x0)): ∀l,∀x0,aH l x0->LG E tV c (Of l x0) (Gf l x0)
 |[]=>h0
 |b::l=>h b l (f0 h0 h l)
def KI{id:Nat}{aH:α0->Prop}{Of:α0->List OE}{Gf:α0->ou}(hK: ∀x0,aH x0->AT E tV .normal (Of x0) (Gf x0))(h:(∀x0,aH x0->AT E tV .normal (Of x0) (Gf x0))->CG E (Exit.inBlock id tV) c aO G):CG E tV (.block id c) aO G:=ak (h hK)
def dP{x y:Code}{aH:α0->Prop}{Of:α0->List OE}{Gf:α0->ou}(hK: ∀x0,aH x0->CG E tV y (Of x0) (Gf x0))(h:(∀x0,aH x0->AT E (Exit.then (y.wpIn (fw E.r) 0 E.P tV) tV) .normal (Of x0) (Gf x0))->CG E (Exit.then (y.wpIn (fw E.r) 0 E.P tV) tV) x aO G):CG E tV (.seq x y) aO G:=aS (h (fun x0=>fun hz=>hK x0 hz))
def z6{aH:Nat->α0->α1->Prop}{Of:α0->α1->List OE}{Gf:α0->α1->ou}(h0: ∀x0 x1,aH 0 x0 x1->False)(h: ∀n,(∀x0 x1,aH n x0 x1->LG E tV c (Of x0 x1) (Gf x0 x1))-> ∀x0 x1,aH (n+1) x0 x1->LG E tV c (Of x0 x1) (Gf x0 x1)): ∀n,∀x0 x1,aH n x0 x1->LG E tV c (Of x0 x1) (Gf x0 x1)
 |0=>fun x0 x1 hz=>(h0 x0 x1 hz).elim
 |n+1=>h n (z6 h0 h n)
def uE{aH:List β->α0->α1->Prop}{Of:List β->α0->α1->List OE}{Gf:List β->α0->α1->ou}(h0: ∀x0 x1,aH [] x0 x1->LG E tV c (Of [] x0 x1) (Gf [] x0 x1))(h: ∀b l,(∀x0 x1,aH l x0 x1->LG E tV c (Of l x0 x1) (Gf l x0 x1))-> ∀x0 x1,aH (b::l) x0 x1->LG E tV c (Of (b::l) x0 x1) (Gf (b::l) x0 x1)): ∀l,∀x0 x1,aH l x0 x1->LG E tV c (Of l x0 x1) (Gf l x0 x1)
 |[]=>h0
 |b::l=>h b l (uE h0 h l)
def u7{x y:Code}{aH:α0->α1->Prop}{Of:α0->α1->List OE}{Gf:α0->α1->ou}(hK: ∀x0 x1,aH x0 x1->CG E tV y (Of x0 x1) (Gf x0 x1))(h:(∀x0 x1,aH x0 x1->AT E (Exit.then (y.wpIn (fw E.r) 0 E.P tV) tV) .normal (Of x0 x1) (Gf x0 x1))->CG E (Exit.then (y.wpIn (fw E.r) 0 E.P tV) tV) x aO G):CG E tV (.seq x y) aO G:=aS (h (fun x0 x1=>fun hz=>hK x0 x1 hz))
def SP{aH:Nat->α0->α1->α2->Prop}{Of:α0->α1->α2->List OE}{Gf:α0->α1->α2->ou}(h0: ∀x0 x1 x2,aH 0 x0 x1 x2->False)(h: ∀n,(∀x0 x1 x2,aH n x0 x1 x2->LG E tV c (Of x0 x1 x2) (Gf x0 x1 x2))-> ∀x0 x1 x2,aH (n+1) x0 x1 x2->LG E tV c (Of x0 x1 x2) (Gf x0 x1 x2)): ∀n,∀x0 x1 x2,aH n x0 x1 x2->LG E tV c (Of x0 x1 x2) (Gf x0 x1 x2)
 |0=>fun x0 x1 x2 hz=>(h0 x0 x1 x2 hz).elim
 |n+1=>h n (SP h0 h n)
def IG{aH:List β->α0->α1->α2->Prop}{Of:List β->α0->α1->α2->List OE}{Gf:List β->α0->α1->α2->ou}(h0: ∀x0 x1 x2,aH [] x0 x1 x2->LG E tV c (Of [] x0 x1 x2) (Gf [] x0 x1 x2))(h: ∀b l,(∀x0 x1 x2,aH l x0 x1 x2->LG E tV c (Of l x0 x1 x2) (Gf l x0 x1 x2))-> ∀x0 x1 x2,aH (b::l) x0 x1 x2->LG E tV c (Of (b::l) x0 x1 x2) (Gf (b::l) x0 x1 x2)): ∀l,∀x0 x1 x2,aH l x0 x1 x2->LG E tV c (Of l x0 x1 x2) (Gf l x0 x1 x2)
 |[]=>h0
 |b::l=>h b l (IG h0 h l)
def Mt{aH:Nat->α0->α1->α2->Prop}{Of:Nat->α0->α1->α2->List OE}{Gf:Nat->α0->α1->α2->ou}(h0: ∀x0 x1 x2,aH 0 x0 x1 x2->LG E tV c (Of 0 x0 x1 x2) (Gf 0 x0 x1 x2))(h: ∀n,(∀x0 x1 x2,aH n x0 x1 x2->LG E tV c (Of n x0 x1 x2) (Gf n x0 x1 x2))-> ∀x0 x1 x2,aH (n+1) x0 x1 x2->LG E tV c (Of (n+1) x0 x1 x2) (Gf (n+1) x0 x1 x2)): ∀n,∀x0 x1 x2,aH n x0 x1 x2->LG E tV c (Of n x0 x1 x2) (Gf n x0 x1 x2)
 |0=>h0
 |n+1=>h n (Mt h0 h n)
def y4{x y:Code}{aH:α0->α1->α2->Prop}{Of:α0->α1->α2->List OE}{Gf:α0->α1->α2->ou}(hK: ∀x0 x1 x2,aH x0 x1 x2->CG E tV y (Of x0 x1 x2) (Gf x0 x1 x2))(h:(∀x0 x1 x2,aH x0 x1 x2->AT E (Exit.then (y.wpIn (fw E.r) 0 E.P tV) tV) .normal (Of x0 x1 x2) (Gf x0 x1 x2))->CG E (Exit.then (y.wpIn (fw E.r) 0 E.P tV) tV) x aO G):CG E tV (.seq x y) aO G:=aS (h (fun x0 x1 x2=>fun hz=>hK x0 x1 x2 hz))
def ww{aH:Nat->α0->α1->α2->α3->Prop}{Of:α0->α1->α2->α3->List OE}{Gf:α0->α1->α2->α3->ou}(h0: ∀x0 x1 x2 x3,aH 0 x0 x1 x2 x3->False)(h: ∀n,(∀x0 x1 x2 x3,aH n x0 x1 x2 x3->LG E tV c (Of x0 x1 x2 x3) (Gf x0 x1 x2 x3))-> ∀x0 x1 x2 x3,aH (n+1) x0 x1 x2 x3->LG E tV c (Of x0 x1 x2 x3) (Gf x0 x1 x2 x3)): ∀n,∀x0 x1 x2 x3,aH n x0 x1 x2 x3->LG E tV c (Of x0 x1 x2 x3) (Gf x0 x1 x2 x3)
 |0=>fun x0 x1 x2 x3 hz=>(h0 x0 x1 x2 x3 hz).elim
 |n+1=>h n (ww h0 h n)
def nX{aH:List β->α0->α1->α2->α3->Prop}{Of:List β->α0->α1->α2->α3->List OE}{Gf:List β->α0->α1->α2->α3->ou}(h0: ∀x0 x1 x2 x3,aH [] x0 x1 x2 x3->LG E tV c (Of [] x0 x1 x2 x3) (Gf [] x0 x1 x2 x3))(h: ∀b l,(∀x0 x1 x2 x3,aH l x0 x1 x2 x3->LG E tV c (Of l x0 x1 x2 x3) (Gf l x0 x1 x2 x3))-> ∀x0 x1 x2 x3,aH (b::l) x0 x1 x2 x3->LG E tV c (Of (b::l) x0 x1 x2 x3) (Gf (b::l) x0 x1 x2 x3)): ∀l,∀x0 x1 x2 x3,aH l x0 x1 x2 x3->LG E tV c (Of l x0 x1 x2 x3) (Gf l x0 x1 x2 x3)
 |[]=>h0
 |b::l=>h b l (nX h0 h l)
def KH{id:Nat}{aH:α0->α1->α2->α3->Prop}{Of:α0->α1->α2->α3->List OE}{Gf:α0->α1->α2->α3->ou}(hK: ∀x0 x1 x2 x3,aH x0 x1 x2 x3->AT E tV .normal (Of x0 x1 x2 x3) (Gf x0 x1 x2 x3))(h:(∀x0 x1 x2 x3,aH x0 x1 x2 x3->AT E tV .normal (Of x0 x1 x2 x3) (Gf x0 x1 x2 x3))->CG E (Exit.inBlock id tV) c aO G):CG E tV (.block id c) aO G:=ak (h hK)
def uF{aH:Nat->α0->α1->α2->α3->α4->Prop}(h0: ∀x0 x1 x2 x3 x4,aH 0 x0 x1 x2 x3 x4->False)(h: ∀n,(∀x0 x1 x2 x3 x4,aH n x0 x1 x2 x3 x4->LG E tV c (Of x0 x1 x2 x3 x4) (Gf x0 x1 x2 x3 x4))-> ∀x0 x1 x2 x3 x4,aH (n+1) x0 x1 x2 x3 x4->LG E tV c (Of x0 x1 x2 x3 x4) (Gf x0 x1 x2 x3 x4)): ∀n,∀x0 x1 x2 x3 x4,aH n x0 x1 x2 x3 x4->LG E tV c (Of x0 x1 x2 x3 x4) (Gf x0 x1 x2 x3 x4)
 |0=>fun x0 x1 x2 x3 x4 hz=>(h0 x0 x1 x2 x3 x4 hz).elim
 |n+1=>h n (uF h0 h n)
def Bu{aH:List β->α0->α1->α2->α3->α4->Prop}{Of:List β->α0->α1->α2->α3->α4->List OE}{Gf:List β->α0->α1->α2->α3->α4->ou}(h0: ∀x0 x1 x2 x3 x4,aH [] x0 x1 x2 x3 x4->LG E tV c (Of [] x0 x1 x2 x3 x4) (Gf [] x0 x1 x2 x3 x4))(h: ∀b l,(∀x0 x1 x2 x3 x4,aH l x0 x1 x2 x3 x4->LG E tV c (Of l x0 x1 x2 x3 x4) (Gf l x0 x1 x2 x3 x4))-> ∀x0 x1 x2 x3 x4,aH (b::l) x0 x1 x2 x3 x4->LG E tV c (Of (b::l) x0 x1 x2 x3 x4) (Gf (b::l) x0 x1 x2 x3 x4)): ∀l,∀x0 x1 x2 x3 x4,aH l x0 x1 x2 x3 x4->LG E tV c (Of l x0 x1 x2 x3 x4) (Gf l x0 x1 x2 x3 x4)
 |[]=>h0
 |b::l=>h b l (Bu h0 h l)
def Ms{aH:Nat->α0->α1->α2->α3->α4->Prop}{Of:Nat->α0->α1->α2->α3->α4->List OE}{Gf:Nat->α0->α1->α2->α3->α4->ou}(h0: ∀x0 x1 x2 x3 x4,aH 0 x0 x1 x2 x3 x4->LG E tV c (Of 0 x0 x1 x2 x3 x4) (Gf 0 x0 x1 x2 x3 x4))(h: ∀n,(∀x0 x1 x2 x3 x4,aH n x0 x1 x2 x3 x4->LG E tV c (Of n x0 x1 x2 x3 x4) (Gf n x0 x1 x2 x3 x4))-> ∀x0 x1 x2 x3 x4,aH (n+1) x0 x1 x2 x3 x4->LG E tV c (Of (n+1) x0 x1 x2 x3 x4) (Gf (n+1) x0 x1 x2 x3 x4)): ∀n,∀x0 x1 x2 x3 x4,aH n x0 x1 x2 x3 x4->LG E tV c (Of n x0 x1 x2 x3 x4) (Gf n x0 x1 x2 x3 x4)
 |0=>h0
 |n+1=>h n (Ms h0 h n)
def B8{id:Nat}{aH:α0->α1->α2->α3->α4->Prop}(hK: ∀x0 x1 x2 x3 x4,aH x0 x1 x2 x3 x4->AT E tV .normal (Of x0 x1 x2 x3 x4) (Gf x0 x1 x2 x3 x4))(h:(∀x0 x1 x2 x3 x4,aH x0 x1 x2 x3 x4->AT E tV .normal (Of x0 x1 x2 x3 x4) (Gf x0 x1 x2 x3 x4))->CG E (Exit.inBlock id tV) c aO G):CG E tV (.block id c) aO G:=ak (h hK)
def KF{x y:Code}{aH:α0->α1->α2->α3->α4->Prop}(hK: ∀x0 x1 x2 x3 x4,aH x0 x1 x2 x3 x4->CG E tV y (Of x0 x1 x2 x3 x4) (Gf x0 x1 x2 x3 x4))(h:(∀x0 x1 x2 x3 x4,aH x0 x1 x2 x3 x4->AT E (Exit.then (y.wpIn (fw E.r) 0 E.P tV) tV) .normal (Of x0 x1 x2 x3 x4) (Gf x0 x1 x2 x3 x4))->CG E (Exit.then (y.wpIn (fw E.r) 0 E.P tV) tV) x aO G):CG E tV (.seq x y) aO G:=aS (h (fun x0 x1 x2 x3 x4=>fun hz=>hK x0 x1 x2 x3 x4 hz))
def z2{aH:Nat->α0->α1->α2->α3->α4->α5->Prop}{Of:α0->α1->α2->α3->α4->α5->List OE}{Gf:α0->α1->α2->α3->α4->α5->ou}(h0: ∀x0 x1 x2 x3 x4 x5,aH 0 x0 x1 x2 x3 x4 x5->False)(h: ∀n,(∀x0 x1 x2 x3 x4 x5,aH n x0 x1 x2 x3 x4 x5->LG E tV c (Of x0 x1 x2 x3 x4 x5) (Gf x0 x1 x2 x3 x4 x5))-> ∀x0 x1 x2 x3 x4 x5,aH (n+1) x0 x1 x2 x3 x4 x5->LG E tV c (Of x0 x1 x2 x3 x4 x5) (Gf x0 x1 x2 x3 x4 x5)): ∀n,∀x0 x1 x2 x3 x4 x5,aH n x0 x1 x2 x3 x4 x5->LG E tV c (Of x0 x1 x2 x3 x4 x5) (Gf x0 x1 x2 x3 x4 x5)
 |0=>fun x0 x1 x2 x3 x4 x5 hz=>(h0 x0 x1 x2 x3 x4 x5 hz).elim
 |n+1=>h n (z2 h0 h n)
def UI{id:Nat}{aH:α0->α1->α2->α3->α4->α5->Prop}{Of:α0->α1->α2->α3->α4->α5->List OE}{Gf:α0->α1->α2->α3->α4->α5->ou}(hK: ∀x0 x1 x2 x3 x4 x5,aH x0 x1 x2 x3 x4 x5->AT E tV .normal (Of x0 x1 x2 x3 x4 x5) (Gf x0 x1 x2 x3 x4 x5))(h:(∀x0 x1 x2 x3 x4 x5,aH x0 x1 x2 x3 x4 x5->AT E tV .normal (Of x0 x1 x2 x3 x4 x5) (Gf x0 x1 x2 x3 x4 x5))->CG E (Exit.inBlock id tV) c aO G):CG E tV (.block id c) aO G:=ak (h hK)
def EG{aH:Nat->α0->α1->α2->α3->α4->α5->α6->Prop}{Of:α0->α1->α2->α3->α4->α5->α6->List OE}{Gf:α0->α1->α2->α3->α4->α5->α6->ou}(h0: ∀x0 x1 x2 x3 x4 x5 x6,aH 0 x0 x1 x2 x3 x4 x5 x6->False)(h: ∀n,(∀x0 x1 x2 x3 x4 x5 x6,aH n x0 x1 x2 x3 x4 x5 x6->LG E tV c (Of x0 x1 x2 x3 x4 x5 x6) (Gf x0 x1 x2 x3 x4 x5 x6))-> ∀x0 x1 x2 x3 x4 x5 x6,aH (n+1) x0 x1 x2 x3 x4 x5 x6->LG E tV c (Of x0 x1 x2 x3 x4 x5 x6) (Gf x0 x1 x2 x3 x4 x5 x6)): ∀n,∀x0 x1 x2 x3 x4 x5 x6,aH n x0 x1 x2 x3 x4 x5 x6->LG E tV c (Of x0 x1 x2 x3 x4 x5 x6) (Gf x0 x1 x2 x3 x4 x5 x6)
 |0=>fun x0 x1 x2 x3 x4 x5 x6 hz=>(h0 x0 x1 x2 x3 x4 x5 x6 hz).elim
 |n+1=>h n (EG h0 h n)
def IF{aH:List β->α0->α1->α2->α3->α4->α5->α6->Prop}{Of:List β->α0->α1->α2->α3->α4->α5->α6->List OE}{Gf:List β->α0->α1->α2->α3->α4->α5->α6->ou}(h0: ∀x0 x1 x2 x3 x4 x5 x6,aH [] x0 x1 x2 x3 x4 x5 x6->LG E tV c (Of [] x0 x1 x2 x3 x4 x5 x6) (Gf [] x0 x1 x2 x3 x4 x5 x6))(h: ∀b l,(∀x0 x1 x2 x3 x4 x5 x6,aH l x0 x1 x2 x3 x4 x5 x6->LG E tV c (Of l x0 x1 x2 x3 x4 x5 x6) (Gf l x0 x1 x2 x3 x4 x5 x6))-> ∀x0 x1 x2 x3 x4 x5 x6,aH (b::l) x0 x1 x2 x3 x4 x5 x6->LG E tV c (Of (b::l) x0 x1 x2 x3 x4 x5 x6) (Gf (b::l) x0 x1 x2 x3 x4 x5 x6)): ∀l,∀x0 x1 x2 x3 x4 x5 x6,aH l x0 x1 x2 x3 x4 x5 x6->LG E tV c (Of l x0 x1 x2 x3 x4 x5 x6) (Gf l x0 x1 x2 x3 x4 x5 x6)
 |[]=>h0
 |b::l=>h b l (IF h0 h l)
def yY{aH:List β->α0->α1->α2->α3->α4->α5->α6->α7->Prop}{Of:List β->α0->α1->α2->α3->α4->α5->α6->α7->List OE}{Gf:List β->α0->α1->α2->α3->α4->α5->α6->α7->ou}(h0: ∀x0 x1 x2 x3 x4 x5 x6 x7,aH [] x0 x1 x2 x3 x4 x5 x6 x7->LG E tV c (Of [] x0 x1 x2 x3 x4 x5 x6 x7) (Gf [] x0 x1 x2 x3 x4 x5 x6 x7))(h: ∀b l,(∀x0 x1 x2 x3 x4 x5 x6 x7,aH l x0 x1 x2 x3 x4 x5 x6 x7->LG E tV c (Of l x0 x1 x2 x3 x4 x5 x6 x7) (Gf l x0 x1 x2 x3 x4 x5 x6 x7))-> ∀x0 x1 x2 x3 x4 x5 x6 x7,aH (b::l) x0 x1 x2 x3 x4 x5 x6 x7->LG E tV c (Of (b::l) x0 x1 x2 x3 x4 x5 x6 x7) (Gf (b::l) x0 x1 x2 x3 x4 x5 x6 x7)): ∀l,∀x0 x1 x2 x3 x4 x5 x6 x7,aH l x0 x1 x2 x3 x4 x5 x6 x7->LG E tV c (Of l x0 x1 x2 x3 x4 x5 x6 x7) (Gf l x0 x1 x2 x3 x4 x5 x6 x7)
 |[]=>h0
 |b::l=>h b l (yY h0 h l)
def EF{aH:List β->α0->α1->α2->α3->α4->α5->α6->α7->α8->Prop}{Of:List β->α0->α1->α2->α3->α4->α5->α6->α7->α8->List OE}{Gf:List β->α0->α1->α2->α3->α4->α5->α6->α7->α8->ou}(h0: ∀x0 x1 x2 x3 x4 x5 x6 x7 x8,aH [] x0 x1 x2 x3 x4 x5 x6 x7 x8->LG E tV c (Of [] x0 x1 x2 x3 x4 x5 x6 x7 x8) (Gf [] x0 x1 x2 x3 x4 x5 x6 x7 x8))(h: ∀b l,(∀x0 x1 x2 x3 x4 x5 x6 x7 x8,aH l x0 x1 x2 x3 x4 x5 x6 x7 x8->LG E tV c (Of l x0 x1 x2 x3 x4 x5 x6 x7 x8) (Gf l x0 x1 x2 x3 x4 x5 x6 x7 x8))-> ∀x0 x1 x2 x3 x4 x5 x6 x7 x8,aH (b::l) x0 x1 x2 x3 x4 x5 x6 x7 x8->LG E tV c (Of (b::l) x0 x1 x2 x3 x4 x5 x6 x7 x8) (Gf (b::l) x0 x1 x2 x3 x4 x5 x6 x7 x8)): ∀l,∀x0 x1 x2 x3 x4 x5 x6 x7 x8,aH l x0 x1 x2 x3 x4 x5 x6 x7 x8->LG E tV c (Of l x0 x1 x2 x3 x4 x5 x6 x7 x8) (Gf l x0 x1 x2 x3 x4 x5 x6 x7 x8)
 |[]=>h0
 |b::l=>h b l (EF h0 h l)
def KG{id:Nat}{aH:α0->α1->α2->α3->α4->α5->α6->α7->α8->Prop}{Of:α0->α1->α2->α3->α4->α5->α6->α7->α8->List OE}{Gf:α0->α1->α2->α3->α4->α5->α6->α7->α8->ou}(hK: ∀x0 x1 x2 x3 x4 x5 x6 x7 x8,aH x0 x1 x2 x3 x4 x5 x6 x7 x8->AT E tV .normal (Of x0 x1 x2 x3 x4 x5 x6 x7 x8) (Gf x0 x1 x2 x3 x4 x5 x6 x7 x8))(h:(∀x0 x1 x2 x3 x4 x5 x6 x7 x8,aH x0 x1 x2 x3 x4 x5 x6 x7 x8->AT E tV .normal (Of x0 x1 x2 x3 x4 x5 x6 x7 x8) (Gf x0 x1 x2 x3 x4 x5 x6 x7 x8))->CG E (Exit.inBlock id tV) c aO G):CG E tV (.block id c) aO G:=ak (h hK)
def IH{α9:Type}{aH:Nat->α0->α1->α2->α3->α4->α5->α6->α7->α8->α9->Prop}{Of:α0->α1->α2->α3->α4->α5->α6->α7->α8->α9->List OE}{Gf:α0->α1->α2->α3->α4->α5->α6->α7->α8->α9->ou}(h0: ∀x0 x1 x2 x3 x4 x5 x6 x7 x8 x9,aH 0 x0 x1 x2 x3 x4 x5 x6 x7 x8 x9->False)(h: ∀n,(∀x0 x1 x2 x3 x4 x5 x6 x7 x8 x9,aH n x0 x1 x2 x3 x4 x5 x6 x7 x8 x9->LG E tV c (Of x0 x1 x2 x3 x4 x5 x6 x7 x8 x9) (Gf x0 x1 x2 x3 x4 x5 x6 x7 x8 x9))-> ∀x0 x1 x2 x3 x4 x5 x6 x7 x8 x9,aH (n+1) x0 x1 x2 x3 x4 x5 x6 x7 x8 x9->LG E tV c (Of x0 x1 x2 x3 x4 x5 x6 x7 x8 x9) (Gf x0 x1 x2 x3 x4 x5 x6 x7 x8 x9)): ∀n,∀x0 x1 x2 x3 x4 x5 x6 x7 x8 x9,aH n x0 x1 x2 x3 x4 x5 x6 x7 x8 x9->LG E tV c (Of x0 x1 x2 x3 x4 x5 x6 x7 x8 x9) (Gf x0 x1 x2 x3 x4 x5 x6 x7 x8 x9)
 |0=>fun x0 x1 x2 x3 x4 x5 x6 x7 x8 x9 hz=>(h0 x0 x1 x2 x3 x4 x5 x6 x7 x8 x9 hz).elim
 |n+1=>h n (IH h0 h n)
end
def bs{α:Type _}{β:Type _}{x:Option α}{k:α->Option β}{r:β}(h:x.bind k=some r): ∃y,x=some y/\k y=some r:=by
 cases x with
 |none=>cases h
 |some y=>exact⟨y,rfl,h⟩
def ct{β:Type _}{x y:Option β}{r:β}(h:(if b=true then x else y)=some r)(V:b=true):x=some r:=by rwa [bM V]at h
def cf{β:Type _}{x y:Option β}{r:β}(h:(if b=true then x else y)=some r)(V:b=false):y=some r:=by rwa [bB (by rw [V];decide)]at h
def so{β:Type _}{x r:β}(h:some x=some r):x=r:=by simpa using h
def og [Inhabited α]{x:Option α}{k:α->Option β}{d:Option β}{r:β}(h:(if b=true then x.bind k else d)=some r): ∃y,(b=true->x=some y/\k y=some r)/\(b=false->d=some r):=by
 cases b with
 |true=>obtain⟨y,H,W⟩:=bs (ct h rfl);exact⟨y,fun _=>⟨H,W⟩,fun e=>(by cases e)⟩
 |false=>exact⟨default,fun e=>(by cases e),fun _=>cf h rfl⟩
def dj{α β:Type}(p:Rp α)(q:Rp β):Rp (α×β) where
 sz:=p.sz+q.sz
 agg:=true
 rc:=fun S cs x=> ∃a b,cs=a++b/\p.rc S a x.1/\q.rc S b x.2
 mono:=fun h ⟨a,b,e,H,W⟩=>⟨a,b,e,p.mono h H,q.mono h W⟩
 len:=fun⟨a,b,e,H,W⟩=>by rw [e,nY,p.len H,q.len W]
 one:=fun⟨a,b,e,H,W⟩ c hc=>by
  rw [e]at hc;rcases An.1 hc with h|h
  ·exact p.one H c h
  ·exact q.one W c h
 sc:=fun h=>by cases h
def sI{α β:Type}(p:Rp α)(f:β->α):Rp β where
 sz:=p.sz
 agg:=true
 rc:=fun S cs x=>p.rc S cs (f x)
 mono:=fun h k=>p.mono h k
 len:=fun h=>p.len h
 one:=fun h=>p.one h
 sc:=fun h=>by cases h
def cx{p:Rp α}{f:β->α}:lO (sI p f) 0 p f:=fun S cs x h=>by
 have h' :p.rc S cs (f x):=h;have hl:=p.len h';rw [yf,<-hl,EK];exact h'
def dA{γ:Type}{p:Rp α}{r:Rp γ}{get:γ->α×β}(h:lO r off (dj p q) get):lO r off p (fun x=>(get x).1):=fun S cs x k=>by
 obtain⟨a,b,e,H,W⟩:=h S cs x k;have hl:=p.len H;have hl2:=q.len W;have:(cs.drop off).take p.sz=a:=by
  have e2:=congrArg (List.take p.sz) e;rw [CJ,Aw (by show p.sz<=p.sz+q.sz;omega),<-hl,List.take_left]at e2;rw [<-hl];exact e2
 rw [this];exact H
def aG{γ:Type}{p:Rp α}{r:Rp γ}{off' :Nat}{get:γ->α×β}(h:lO r off (dj p q) get)(ho:off' =off+p.sz):lO r off' q (fun x=>(get x).2):=fun S cs x k=>by
 obtain⟨a,b,e,H,W⟩:=h S cs x k;have hl:=p.len H;have hl2:=q.len W;have:(cs.drop off').take q.sz=b:=by
  have e2:=congrArg (List.drop p.sz) e;rw [Cl,uH,<-hl,List.drop_left]at e2;rw [ho,<-hl,<-e2];congr 1;show q.sz=p.sz+q.sz-a.length;omega
 rw [this];exact W
section
variable{E:En}
def aad{op:Op}{ty:TypeId}(hj:(ops[j]?).bind (·.dst)=some gs)(hgs:Nat.blt gs E.N.n=true)(Y:cX G gs=some (tD rB b))(hd:Nat.blt d E.N.n=true)(h:b=true->dw E aO G ⟨some d,op,ty,pos,after,some (j,true)⟩ t)(k:RG E ops tV rest aO ((d,rM b t)::G)):RG E ops tV (⟨some d,op,ty,pos,after,some (j,true)⟩::rest) aO G:=by
 have e:(true&&(b==true))=b:=by cases b<;>rfl
 exact Mq hj hgs (tP Y) hd (by rw [e];exact h) (by rw [e];exact k)
def aae{op:Op}{ty:TypeId}(hj:(ops[j]?).bind (·.dst)=some gs)(hgs:Nat.blt gs E.N.n=true)(Y:cX G gs=some (tD rB b))(hd:Nat.blt d E.N.n=true)(h:(!b)=true->dw E aO G ⟨some d,op,ty,pos,after,some (j,false)⟩ t)(k:RG E ops tV rest aO ((d,rM (!b) t)::G)):RG E ops tV (⟨some d,op,ty,pos,after,some (j,false)⟩::rest) aO G:=by
 have e:(true&&(b==false))= !b:=by cases b<;>rfl
 exact Mq hj hgs (tP Y) hd (by rw [e];exact h) (by rw [e];exact k)
def d7{c:Bool}{op:Op}{ty:TypeId}(hj:(ops[j]?).bind (·.dst)=some gs)(hgs:Nat.blt gs E.N.n=true)(Y:cX G gs=some (rM c (tD rB b)))(hd:Nat.blt d E.N.n=true)(h:(c&&b)=true->dw E aO G ⟨some d,op,ty,pos,after,some (j,true)⟩ t)(k:RG E ops tV rest aO ((d,rM (c&&b) t)::G)):RG E ops tV (⟨some d,op,ty,pos,after,some (j,true)⟩::rest) aO G:=by
 have e:(c&&(b==true))=(c&&b):=by cases b<;>rfl
 exact Mq hj hgs (Fc Y) hd (by rw [e];exact h) (by rw [e];exact k)
def cO{c:Bool}{op:Op}{ty:TypeId}(hj:(ops[j]?).bind (·.dst)=some gs)(hgs:Nat.blt gs E.N.n=true)(Y:cX G gs=some (rM c (tD rB b)))(hd:Nat.blt d E.N.n=true)(h:(c&& !b)=true->dw E aO G ⟨some d,op,ty,pos,after,some (j,false)⟩ t)(k:RG E ops tV rest aO ((d,rM (c&& !b) t)::G)):RG E ops tV (⟨some d,op,ty,pos,after,some (j,false)⟩::rest) aO G:=by
 have e:(c&&(b==false))=(c&& !b):=by cases b<;>rfl
 exact Mq hj hgs (Fc Y) hd (by rw [e];exact h) (by rw [e];exact k)
def eZ{l:List Oper}{need:ou}(Y:o.guard=some (j,true))(hj:((l.toArray)[j]?).bind (·.dst)=some gs)(hgs:Nat.blt gs E.N.n=true)(V:cX need gs=some (tD rB b))(h:b=true->dw E aO need o t):cr E aO l.toArray need o (rM b t):=by
 have e:(true&&(b==true))=b:=by cases b<;>rfl
 have:=FZ (t:=t) Y hj hgs (tP (E:=E) V) (by rw [e];exact h)
 rwa [e]at this
def eQ{l:List Oper}{need:ou}(Y:o.guard=some (j,false))(hj:((l.toArray)[j]?).bind (·.dst)=some gs)(hgs:Nat.blt gs E.N.n=true)(V:cX need gs=some (tD rB b))(h:(!b)=true->dw E aO need o t):cr E aO l.toArray need o (rM (!b) t):=by
 have e:(true&&(b==false))= !b:=by cases b<;>rfl
 have:=FZ (t:=t) Y hj hgs (tP (E:=E) V) (by rw [e];exact h)
 rwa [e]at this
def ub{a:Bool}(h:a=true)(k:b=true):(a&&b)=true:=by rw [h,k];rfl
def sL{a:Bool}(h:a=false):(!a)=true:=by rw [h];rfl
def xm{c:Operand}{x y:Code}(V:bk E.N G c (tD rB b))(h:b=true)(K:CG E tV x aO G):CG E tV (.cond c x y) aO G:=uG V (fun _=>K) (fun e=>by rw [h]at e;cases e)
def xn{c:Operand}{x y:Code}(V:bk E.N G c (tD rB b))(h:b=false)(hy:CG E tV y aO G):CG E tV (.cond c x y) aO G:=uG V (fun e=>by rw [h]at e;cases e) (fun _=>hy)
end
def og2 [Inhabited α]{x:Option α}{k:α->Option β}{r:β}(h:b=true->x.bind k=some r): ∃y,b=true->x=some y/\k y=some r:=by
 cases b with
 |true=>obtain⟨y,H,W⟩:=bs (h rfl);exact⟨y,fun _=>⟨H,W⟩⟩
 |false=>exact⟨default,fun e=>(by cases e)⟩
section
variable{E:En}{ty:TypeId}
def j3{c:Operand}{q:Bool}(hc:bk E.N G c (tD rB b))(K:b=true->bk E.N G x (tD rB q)):dw E aO G ⟨dst,.pick c x (.const (.bool false)),ty,pos,after,g⟩ (tD rB (b&&q)):=by
 refine BO hc (fun h=>?_) (fun h=>?_)
 ·subst h;exact K rfl
 ·subst h;exact hB
def ke{c:Operand}{q:Bool}(hc:bk E.N G c (tD rB b))(K:b=false->bk E.N G x (tD rB q)):dw E aO G ⟨dst,.pick c (.const (.bool true)) x,ty,pos,after,g⟩ (tD rB (b||q)):=by
 refine BO hc (fun h=>?_) (fun h=>?_)
 ·subst h;exact hB
 ·subst h;exact K rfl
def cw{c:Operand}{q t:Bool}(hc:bk E.N G c (tD rB b))(K:b=true->bk E.N G x (tD rB q))(e1:b=true->some q=some t)(e0:b=false->some false=some t):dw E aO G ⟨dst,.pick c x (.const (.bool false)),ty,pos,after,g⟩ (tD rB t):=by
 refine BO hc (fun h=>?_) (fun h=>?_)
 ·rw [<-so (e1 h)];exact K h
 ·rw [<-so (e0 h)];exact hB
def iQ{c:Operand}{q t:Bool}(hc:bk E.N G c (tD rB b))(K:b=false->bk E.N G x (tD rB q))(e1:(!b)=true->some q=some t)(e0:(!b)=false->some true=some t):dw E aO G ⟨dst,.pick c (.const (.bool true)) x,ty,pos,after,g⟩ (tD rB t):=by
 refine BO hc (fun h=>?_) (fun h=>?_)
 ·rw [<-so (e0 (by rw [h];rfl))];exact hB
 ·rw [<-so (e1 (by rw [h];rfl))];exact K h
def Qa(hi:ts[i]? =some t)(K:bk E.N G x (tT ts)):dw E aO G ⟨dst,.extract x i,ty,pos,after,g⟩ t:=
 .of_pure fun a w S _ _ hf=>by
  obtain⟨vs,H,W⟩:=K S a hf;obtain⟨v,h3,h4⟩:=W.at_ i t hi;exact⟨v,by simp [execOp,H,Instr.extract,h3],h4⟩
def Yg{k:IntKind}{m n:Int}(K:bk E.N G x (tD (rI k) m))(hy:bk E.N G y (tD (rI k) n)):dw E aO G ⟨dst,.call ⟨.builtin .min,#[x,y],ats⟩,ty,pos,after,g⟩ (tD (rI k) (min m n)):=
 .of_pure fun a w S _ _ hf=>by
  have H:a.eval x= .int k m:=fH.1 (K S a hf);have W:a.eval y= .int k n:=fH.1 (hy S a hf);refine⟨.int k (if n<m then n else m),by simp [execOp,resolve,invoke,builtin,Builtin.min_,Builtin.min2,H,W],fH.2 ?_⟩;congr 1;rw [Int.min_def];split<;>split<;>omega
def nL(P:Program){α β:Type}(args:α->List Ty)(res:β->Ty)(f:α->Option β):Ty where
 p:=fun S v=> ∃fid cap,v= .func (.func fid) #[] cap/\aj P fid=true/\ ∀x y,f x=some y-> ∀w S' vs,SH.le S S' ->oF w S' ->Au S' (args x) vs->
  Calls P fid (vs.toArray++cap) w fun e w' => ∃v S'',e= .returned v/\mi xM w S' w' S'' /\oF w' S'' /\(res y).p S'' v
 mono:=fun h ⟨f,cap,e,hc,k⟩=>⟨f,cap,e,hc,fun x y hxy w S' vs hle=>k x y hxy w S' vs (SH.le_trans h hle)⟩
def Wd{N:Fr}{P:Program}{f:α->Option β}{fid:FuncId}(hc:aj P fid=true)(hs: ∀x y,f x=some y->dk P fid (args x) (res y)):bk N G (.func fid) (nL P args res f):=fun S a _=>
 ⟨fid,#[],rfl,hc,fun x y h w S' vs _ hsat hv=>by simpa using hs x y h w S' vs hsat hv⟩
def Au.append: ∀{ts us:List Ty} {vs ws:List Value},Au S ts vs->Au S us ws->Au S (ts++us) (vs++ws)
 |[],_,[],_,_,h=>h
 |_::_,_,_::_,_,⟨H,W⟩,h=>⟨H,Au.append W h⟩
def A3{f:α->Option β}{fid:FuncId}{caps:List Operand}{cts:List Ty}(hc:aj E.P fid=true)(hcap:nD E.N G caps cts)(hs: ∀x y,f x=some y->dk E.P fid (args x++cts) (res y)):dw E aO G ⟨dst,.makeFunc (.func fid) #[] caps.toArray,ty,pos,after,g⟩ (nL E.P args res f):=
 .of_pure fun a w S _ _ hf=>by
  refine⟨.func (.func fid) #[] (caps.map a.eval).toArray,by simp [execOp,Instr.makeFunc],fid,_,rfl,hc,fun x y h w' S' vs hle hsat hv=>?_⟩;have hcv:=(hcap.tys hf).mono hle;simpa using hs x y h w' S' _ hsat (hv.append hcv)
def nP{f:α->Option β}{fo:Operand}{x:α}{y:β}{xs:List Operand}(hfo:bk E.N G fo (nL E.P args res f))(h:f x=some y)(K:nD E.N G xs (args x)):
  dw E aO G ⟨dst,.call ⟨.value fo,xs.toArray,ats⟩,ty,pos,after,g⟩ (res y):=fun a w S hS _ hF=>by
 obtain⟨fid,cap,e,hc,hs⟩:=hfo S a hF;have hr:(execOp a.eval ⟨dst,.call ⟨.value fo,xs.toArray,ats⟩,ty,pos,after,g⟩).run E.P w= .ok (.enter fid ((xs.map a.eval).toArray++cap)) w:=by
  simp [execOp,resolve,e,Deferred.ofValue,invoke,k7 hc]
 refine⟨fun c h=>(by cases h),?_⟩;rw [hr];exact(hs x y h w S _ (SH.le_refl _) hS (K.tys hF)).mono fun e w' ⟨v,S',he,H,W,h3⟩=>⟨v,he,v,S',rfl,H,W,h3⟩
end
def dk.of{P:Program}{N:Nat}(hf:P.funcs[f]? =some fn)(V:fn.body=some c)(hN:fn.ntmps=N)(hn:Nat.ble ts.length N=true)(h: ∀w0 S0,CG ⟨P,⟨N,[]⟩,xM,w0,S0,none⟩ (bodyPost P fn (Mb ⟨P,⟨N,[]⟩,xM,w0,S0,none⟩ t)) c [] (Cz 0 ts)):dk P f ts t:=by
 subst hN;exact Mi hf V (vq hn) h
def nn{α:Type _}{r:α}(h:(none:Option α)=some r):False:=by cases h
def vk{N:Fr}:bk N G (.const (.slice none 0 0)) (Q (aI none 0 0)):=fun _ _ _=>rfl
def de:Nat:=2^64
section
variable{E:En}{ty:TypeId}
def PX(l:Option Nat)(cap n:Nat)(h:l=none->n=0): ∃a c,aI l cap n= .slice a n c:=by
 cases l with
 |none=>rw [h rfl];exact⟨none,0,rfl⟩
 |some b=>exact⟨_,cap,rfl⟩
def jg{r:Rp α}{n:Nat}{t:TypeId}(D:E.P.underlying t=some (.slice e))(hm:o5 mm r T l cap xs∈aO)(K:bk E.N G x (Q (aI l cap n)))(hn:n=xs.length:=by rfl):
  dw E aO G ⟨dst,.call ⟨.builtin .len,#[x],#[t]⟩,ty,pos,after,g⟩ (tD (rI .i64) (n:Int)):=
 .of_pure fun a w S _ ho hf=>by
  have H:a.eval x=aI l cap n:=K S a hf;have W:=(ho.mem _ hm).1;obtain⟨ad,c,h3⟩:=PX l cap n (fun e=>by subst e;obtain⟨_,h4,_⟩:=W;rw [hn];exact h4.1);refine⟨.int .i64 n,?_,fH.2 rfl⟩;simp [execOp,resolve,invoke,builtin,Builtin.len_,mb D,H,h3,goInt]
end
structure SR(P:Program){α:Type} [DecidableEq α](t:TypeId)(r:Rp α):Prop where
 guard:P.eqGuardType P.depth t=false
 run: ∀(S:SH) (cs ds:List Value) (x y:α) (d:Nat) (w:World),r.rc S cs x->r.rc S ds y->(Op.equalIn (d+20) t (r.val cs) (r.val ds)).run P w= .ok (decide (x=y)) w
section
variable{E:En}{ty:TypeId}
def FO{P:Program}{t:TypeId}(h:P.eqGuardType P.depth t=false){op:BinOp}{x y:Operand}{u v:Array Value}{w:World}:(eqGuard op t x y (.agg u) (.agg v)).run P w= .ok () w:=by
 unfold eqGuard;cases op<;>first|rfl|simp [h]
def vY{r:Rp α}(h:r.agg=true)(cs:List Value):r.val cs= .agg cs.toArray:=by unfold Rp.val;rw [bM h]
def BR [DecidableEq α]{r:Rp α}{m n:α}(he:SR E.P xt r)(K:bk E.N G x (tD r m))(hy:bk E.N G y (tD r n))(ha:r.agg=true:=by rfl):dw E aO G ⟨dst,.binOp .eql xt x y yt,ty,pos,after,g⟩ (tD rB (decide (m=n))):=
 .of_pure fun a w S _ _ hf=>by
  obtain⟨cs,H,W⟩:=K S a hf;obtain⟨ds,h3,h4⟩:=hy S a hf;refine⟨.bool (decide (m=n)),?_,ko.2 rfl⟩;have hr:=he.run S cs ds m n 9980 w W h4;have Y:= @FO E.P xt he.guard .eql x y cs.toArray ds.toArray w;rw [vY ha,vY ha]at hr;simp only [execOp,H,h3,vY ha,Am,Y,Cc,binOp,Op.equal,Op.maxDepth];rw [show(10000:Nat)=9980+20 from rfl,hr];simp
def wn [DecidableEq α]{r:Rp α}{m n:α}(he:SR E.P xt r)(K:bk E.N G x (tD r m))(hy:bk E.N G y (tD r n))(ha:r.agg=true:=by rfl):dw E aO G ⟨dst,.binOp .neq xt x y yt,ty,pos,after,g⟩ (tD rB (!decide (m=n))):=
 .of_pure fun a w S _ _ hf=>by
  obtain⟨cs,H,W⟩:=K S a hf;obtain⟨ds,h3,h4⟩:=hy S a hf;refine⟨.bool (!decide (m=n)),?_,ko.2 rfl⟩;have hr:=he.run S cs ds m n 9980 w W h4;have Y:= @FO E.P xt he.guard .neq x y cs.toArray ds.toArray w;rw [vY ha,vY ha]at hr;simp only [execOp,H,h3,vY ha,Am,Y,Cc,binOp,Op.equal,Op.maxDepth];rw [show(10000:Nat)=9980+20 from rfl,hr];simp
end
def xL{base:Nat}{B:Nat->Prop}(h:gm base B w S aO)(k:mi xM w S w' S'){e:OE}(he:e.p w' S')(hn: ∀b,e.fp b->w.heap.size<=b)(V:base<=w.heap.size:=by first|assumption|exact St.base_le (by assumption)):gm base B w' S' (e::aO):=
 ⟨⟨he,fun b hb' => .inl (z8 V (hn b hb'))⟩,fun f hf b hb' hfb=>by
  have:=f.here (gm.mem h f hf).1 b hfb;have:=hn b hb';omega,h.ext0 k⟩
def jI(P:Program)(f:FuncId)(ts:List Ty)(mm:Bool){α:Type}(r:Rp α)(T:TypeId)(xs:List α):Prop:=
 ∀w S vs,oF w S->Au S ts vs->Calls P f vs.toArray w fun e w' => ∃l cap S',e= .returned (aI l cap xs.length)/\mi xM w S w' S' /\oF w' S' /\(o5 mm r T l cap xs).holds w.heap.size xM w' S'
def PF{r:Rp α}(h:(o5 mm r T l cap xs).holds w.heap.size xM w' S')(he:mi xM w S w' S')(hs:oF w' S'):
  ∃S'',mi xM w S w' S'' /\oF w' S'' /\(tD (gE r) xs).p S'' (aI l cap xs.length):=by
 have st:St ⟨default,⟨0,[]⟩,xM,w,S,none⟩ [o5 mm r T l cap xs] [] ⟨#[],[]⟩ w' S' :=⟨he,hs,⟨h,fun _ hf=>(by cases hf),trivial⟩,⟨rfl,rfl,fun _ _ h=>(by simp [cX]at h)⟩⟩;obtain⟨S'',H,W⟩:=st.settle;exact⟨S'',H.ext,H.sat,W⟩
def jI.spec{P:Program}{r:Rp α}(h:jI P f ts mm r T xs):dk P f ts (tD (gE r) xs):=fun w S vs hs hv=>
 (h w S vs hs hv).mono fun e w' ⟨l,cap,S',he,H,W,h3⟩=>by
  obtain⟨S'',h4,h5,h6⟩:=PF h3 H W;exact⟨_,S'',he,h4,h5,h6⟩
def adM(E:En)(mm:Bool){α:Type}(r:Rp α)(T:TypeId)(xs:List α):Ending->World->Prop:=fun e w' => ∃l cap S',e= .returned (aI l cap xs.length)/\mi E.B E.w0 E.S0 w' S' /\oF w' S' /\(o5 mm r T l cap xs).holds E.w0.heap.size E.B w' S'
def jI.of{P:Program}{N:Nat}{r:Rp α}(hf:P.funcs[f]? =some fn)(V:fn.body=some c)(hN:fn.ntmps=N)(hn:Nat.ble ts.length N=true)(h: ∀w0 S0,CG ⟨P,⟨N,[]⟩,xM,w0,S0,none⟩ (bodyPost P fn (adM ⟨P,⟨N,[]⟩,xM,w0,S0,none⟩ mm r T xs)) c [] (Cz 0 ts)):jI P f ts mm r T xs:=by
 subst hN;intro w S vs hs hv;exact zX.1 (callsIn_of_wp (F:=fw none) (n:=0) hf V trivial (h w S _ w S ⟨mi.refl _ _ _,hs,trivial,C9 hv _ (vq hn)⟩))
section
variable{E:En}
def gu{P:Program}{N:Nat}{B:Nat->Prop}{w0:World}{S0:SH}{r:Rp α}{n:Nat}(hr:fn.results= #[.tmp k])(hk:cX G k=some (Q (aI l cap n)))(hn:n=xs.length:=by rfl):
  AT ⟨P,⟨N,[]⟩,B,w0,S0,none⟩ (bodyPost P fn (adM ⟨P,⟨N,[]⟩,B,w0,S0,none⟩ mm r T xs)) .ret (o5 mm r T l cap xs::aO) G:=fun a w S st=>by
 subst hn;have hv:a.tmps.getD k undef=aI l cap xs.length:=st.facts.at_ k _ hk;exact⟨st.facts.defers,_,vN P fn k hr _ _,l,cap,S,by rw [hv],st.ext,st.sat,st.own.1⟩
section
variable{ty:TypeId}
def UA{xs:List Operand}{r:Rp α}{u:Nat->Option Nat->Ty}(hc:aj E.P f=true)(hs:jI E.P f ts mm r T ys)(K:nD E.N G xs ts)(hd:Nat.blt d E.N.n=true)(hu: ∀l cap w0 S,(o5 mm r T l cap ys).p w0 S->(u cap l).p S (aI l cap ys.length))(k: ∀l cap,RG E ops tV rest (o5 mm r T l cap ys::aO) ((d,u cap l)::G)):
  RG E ops tV (⟨some d,.call ⟨.value (.func f),xs.toArray,ats⟩,ty,pos,after,none⟩::rest) aO G:= .of rfl fun a w S st=>by
 have hr:(execOp a.eval ⟨some d,.call ⟨.value (.func f),xs.toArray,ats⟩,ty,pos,after,none⟩).run E.P w= .ok (.enter f (xs.map a.eval).toArray) w:=by
  simp [execOp,resolve,Act.eval,Deferred.ofValue,invoke,k7 hc]
 refine⟨fun c h=>(by cases h),?_⟩;rw [hr];refine(hs w S _ st.sat (K.tys st.facts)).mono fun e w' ⟨l,cap,S',he,H,W,h3⟩=>⟨_,he,?_⟩;refine k l cap _ _ S' ⟨st.ext.step0 H,W,xL st.own H h3.1 (fun b V=>(h3.2 b V).resolve_right id) st.base_le,(st.facts.mono H.keep).put hd (hu l cap w' S' h3.1)⟩
def IC{xs:List Operand}{r:Rp α}(hc:aj E.P f=true)(hs:jI E.P f ts false r T ys)(K:nD E.N G xs ts)(hd:Nat.blt d E.N.n=true)(k: ∀l cap,RG E ops tV rest (d5 r T l cap ys::aO) ((d,Q (aI l cap ys.length))::G)):
  RG E ops tV (⟨some d,.call ⟨.value (.func f),xs.toArray,ats⟩,ty,pos,after,none⟩::rest) aO G:=UA (u:=fun cap l=>Q (aI l cap ys.length)) hc hs K hd (fun _ _ _ _ _=>rfl) k
def iU{r:Rp α}{xs:List Operand}{parts:List (Nat×Operand)}{t:TypeId}{n sz:Nat}{agg:Bool}(D:E.P.underlying t=some (.slice T))(ti:TI E.P T sz bytes agg z)(hsz:r.sz=sz)(h0:Nat.blt 0 sz=true)(hp:parts=CC 0 xs)(hn:n=ys.length)(V:Nat.ble (n*sz) 16777216=true)(K:nD E.N G xs (ys.map (tD r)))(hd:Nat.blt d E.N.n=true)(k: ∀l cap,RG E ops tV rest (d5 r T l cap ys::aO) ((d,Q (aI l cap ys.length))::G)):
  RG E ops tV (⟨some d,.buildSlice t n parts.toArray,ty,pos,after,none⟩::rest) aO G:= .of rfl fun a w S st=>by
 obtain⟨cs,hc,hr⟩:=AP D ti hsz hn V (K.tys st.facts) w;subst hsz;subst hp;have hb' :=vq V;have h0' :0<r.sz:=by simpa [ye] using h0
 have hnle:n<=n*r.sz:=Nat.le_mul_of_pos_right n h0';have hcl:=mv hc;obtain⟨he,hs',hno⟩:=mH (w:=w) (.cells cs.toArray T (0,0)) st.sat;have hrun:(execOp a.eval ⟨some d,.buildSlice t n (CC 0 xs).toArray,ty,pos,after,none⟩).run E.P w= .ok (.value (.slice (some ⟨w.heap.size,0,none⟩) n n)) (w.alloc (.cells cs.toArray T (0,0))):=by
  simp only [execOp,Am,hr,Cc,Sem.run_pure]
 refine⟨fun c h=>(by cases h),?_⟩;rw [hrun];refine k (some w.heap.size) n _ _ S ⟨st.ext.step0 he,hs',xL st.own he ⟨cs,⟨cs.toArray,Ck w _,by omega,by simp only [maxLen];omega,by simp [hcl,hn],by simp [<-hcl]⟩,hc,fun b V=>by rw [<-uK V];exact hno⟩ (fun b V=>Fu (uK V)) st.base_le,st.facts.put hd ?_⟩
 ·show _=aI _ _ _;rw [<-hn];rfl
def OR{r:Rp α}{t:TypeId}(D:E.P.underlying t=some (.slice e))(K:bk E.N G x (tD (gE r) xs))(hd:Nat.blt d E.N.n=true)(k: ∀b,(b=true->xs=[])->RG E ops tV rest aO ((d,tD rB b)::G)):RG E ops tV (⟨some d,.binOp .eql t x (.const (.slice none 0 0)) yt,ty,pos,after,none⟩::rest) aO G:= .of rfl fun a w S st=>by
 obtain⟨ad,cap,H,_,_,W⟩:=ku.1 (K S a st.facts);have hrun:(execOp a.eval ⟨some d,.binOp .eql t x (.const (.slice none 0 0)) yt,ty,pos,after,none⟩).run E.P w= .ok (.value (.bool ad.isNone)) w:=by
  have h3:(Op.equal t (.slice ad xs.length cap) (.slice none 0 0)).run E.P w= .ok ad.isNone w:=BA fun d=>by
   cases ad<;>simp [Op.equalIn,mb D]
  have hcn:a.eval (.const (.slice none 0 0))= .slice none 0 0:=rfl;simp [execOp,H,hcn,eqGuard,binOp,h3]
 refine⟨fun c h=>(by cases h),?_⟩;rw [hrun];refine k ad.isNone (fun e=>?_) _ _ S (st.step (mi.refl _ _ _) st.sat hd (ko.2 rfl));rcases W with W|⟨b,off,c,T,fr,e1,_⟩
 ·exact W
 ·subst e1;cases e
end
end
def M(b off:Nat):Value:= .pointer (some ⟨b,off,none⟩)
def s{α:Type}(r:Rp α)(T:TypeId)(b:Nat)(x:α):OE where
 fp:=fun k=>k=b
 p:=fun w S=>S b=none/\ ∃c,w.heap[b]? =some (.cells c T (0,0))/\r.rc S c.toList x
 here:=by
  intro w S h k hk;subst hk;obtain⟨H,c,W,_⟩:=h;exact(KL.1 W).1
 kept:=by
  intro C w w' S S' h k hC;obtain⟨H,c,W,h3⟩:=h;have hlt:=(KL.1 W).1;exact⟨by rw [k.old b hlt (hC b rfl)];exact H,c,by rw [k.heap b hlt (hC b rfl)];exact W,r.mono k.keep h3⟩
def rV:Rp Value where
 sz:=1
 agg:=false
 rc:=fun _ cs v=>cs=[v]/\v.oneCell' =true
 mono:=fun _ h=>h
 len:=fun h=>by rw [h.1];rfl
 one:=fun h c hc=>by rw [h.1]at hc;simp at hc;subst hc;exact h.2
 sc:=fun _=>rfl
def By{u:Value}:(tD rV u).p S v↔v=u/\u.oneCell' =true:=by
 constructor
 ·rintro⟨cs,rfl,H,W⟩;subst H;exact⟨rfl,W⟩
 ·rintro⟨rfl,h⟩;exact⟨[v],rfl,rfl,h⟩
def fd{α β:Type}(r:Rp α)(off:Nat)(q:Rp β)(set:α->β->α):Prop:= ∀S cs x ds y,r.rc S cs x->q.rc S ds y->r.rc S (cs.take off++ds++cs.drop (off+q.sz)) (set x y)
section
variable{E:En}{e:Exit}
def St.settleB{r:Rp α}{b:Nat}{x:α}(h:St E (s r T b x::aO) G a w S)(hk:cX G k=some (Q (M b 0))): ∃S',St E aO ((k,da r x)::G) a w S' :=by
 obtain⟨⟨hn,cur,h3,h4⟩,_⟩:=h.own.1;obtain⟨h8,hle,_,_⟩:=CX h rfl h3 (wZ _) hn;have hv:a.tmps.getD k undef=M b 0:=h.facts.at_ k _ hk;refine⟨_,h8.cons ⟨b,0,cur,T,(0,0),hv,by simp [SH.set],?_⟩⟩;have hl:cur.size=r.sz:=by have:=r.len h4;simpa using this
 have:=r.mono hle h4;rw [yf,yi (by simp [hl])];exact this
def bj{r:Rp α}{b:Nat}{x:α}(k:Nat)(hk:cX G k=some (Q (M b 0)))(h:RG E ops tV rest aO ((k,da r x)::G)):RG E ops tV rest (s r T b x::aO) G:=
 fun a w _ st=>let⟨S',st'⟩:=st.settleB hk;h a w S' st'
def cJ{r:Rp α}{b:Nat}{x:α}(k:Nat)(hk:cX G k=some (Q (M b 0)))(h:AT E tV e aO ((k,da r x)::G)):AT E tV e (s r T b x::aO) G:=
 fun a w _ st=>let⟨S',st'⟩:=st.settleB hk;h a w S' st'
section
variable{ty:TypeId}
def bD{r:Rp α}{x:α}{sz:Nat}{agg:Bool}(ti:TI E.P T sz bytes agg z)(K: ∀S,r.rc S z x)(hd:Nat.blt d E.N.n=true)(k: ∀b,RG E ops tV rest (s r T b x::aO) ((d,Q (M b 0))::G)):RG E ops tV (⟨some d,.alloc T,ty,pos,after,none⟩::rest) aO G:= .of rfl fun a w S st=>by
 obtain⟨zv,hzr,hzc⟩:=ti.zero w;obtain⟨he,hs',hno⟩:=mH (w:=w) (.cells z.toArray T (0,0)) st.sat;have hrun:(execOp a.eval ⟨some d,.alloc T,ty,pos,after,none⟩).run E.P w= .ok (.value (M w.heap.size 0)) (w.alloc (.cells z.toArray T (0,0))):=by
  simp [execOp,Instr.alloc,hzr,newVar,newRow,hzc,M]
 refine⟨fun c h=>(by cases h),?_⟩;rw [hrun];exact k w.heap.size _ _ S ⟨st.ext.step0 he,hs',xL st.own he ⟨hno,z.toArray,Ck w _,by simpa using K S⟩ (fun b V=>Fu V.symm) st.base_le,st.facts.put hd rfl⟩
def ss{r:Rp α}{v:α}(K:bk E.N G x (tD r v))(hd:Nat.blt d E.N.n=true)(k: ∀b,RG E ops tV rest (s r T b v::aO) ((d,Q (M b 0))::G)):RG E ops tV (⟨some d,.box T x,ty,pos,after,none⟩::rest) aO G:= .of rfl fun a w S st=>by
 obtain⟨cs,hv,hc⟩:=K S a st.facts;obtain⟨he,hs',hno⟩:=mH (w:=w) (.cells cs.toArray T (0,0)) st.sat;have hrun:(execOp a.eval ⟨some d,.box T x,ty,pos,after,none⟩).run E.P w= .ok (.value (M w.heap.size 0)) (w.alloc (.cells cs.toArray T (0,0))):=by
  simp [execOp,Instr.box,newVar,newRow,hv,yB hc,M]
 refine⟨fun c h=>(by cases h),?_⟩;rw [hrun];exact k w.heap.size _ _ S ⟨st.ext.step0 he,hs',xL st.own he ⟨hno,cs.toArray,Ck w _,by simpa using hc⟩ (fun b V=>Fu V.symm) st.base_le,st.facts.put hd rfl⟩
def qm{base:Nat}{B:Nat->Prop}{b:Nat}(hs:oF w S)(f f' :OE)(h:gm base B w S (f::aO))(hf: ∀k,f.fp k↔k=b)(hf' : ∀k,f'.fp k↔k=b)(Y:w'.os=w.os/\w'.tape=w.tape/\w'.output=w.output/\w'.heap.size=w.heap.size/\w.drawn<=w'.drawn)(ho: ∀k,k≠b->w'.heap[k]? =w.heap[k]?)(hp:f'.p w' S)(hno:S b=none):mi (fun k=>k=b) w S w' S/\oF w' S/\gm base B w' S (f' ::aO):=by
 have hext:mi (fun k=>k=b) w S w' S:=⟨Y.1,Y.2.1,Y.2.2.1,Y.2.2.2.2,by omega,fun k _ hk=>ho k hk,SH.le_refl _,fun _ _ _=>rfl⟩;refine⟨hext,hs.same fun k o hk=>?_,⟨hp,fun k hk=>h.1.2 k ((hf k).2 ((hf' k).1 hk))⟩,fun g hgm k hk=>h.2.1 g hgm k ((hf k).2 ((hf' k).1 hk)),h.2.2.ext hext fun g hgm k hk hkb=>h.2.1 g hgm k ((hf k).2 hkb) hk⟩;have hne:k≠b:=fun e=>by subst e;rw [hno]at hk;cases hk
 exact ho k hne
def lQ{P:Program}{q:Rp α}{sz:Nat}{agg:Bool}(ti:TI P U sz bytes agg z)(hsz:q.sz=sz){ds:List Value}{y:α}(hy:q.rc S ds y){b:Nat}{cur:Array Value}(Y:w.heap[b]? =some (.cells cur T (0,0)))(hfit:off+q.sz<=cur.size):
  ∃w',(storeVar U ⟨b,off,none⟩ (q.val ds)).run P w= .ok () w' /\w'.os=w.os/\w'.tape=w.tape/\w'.output=w.output/\(w'.heap.size=w.heap.size/\w.drawn<=w'.drawn)/\w'.heap[b]? =some (.cells (cur.toList.take off++ds++cur.toList.drop (off+q.sz)).toArray T (0,0))/\ ∀k,k≠b->w'.heap[k]? =w.heap[k]? :=by
 have hl:=q.len hy;have hst:=run_storeCells_at P b off T ds 0 cur w Y (by omega) (q.one hy);simp only [Du]at hst;refine⟨w.setRow b (cur.toList.take off++ds++cur.toList.drop (off+ds.length)).toArray,?_,rfl,rfl,rfl,⟨?_,kE _⟩,?_,fun k hk=>setRow_other w b k _ hk⟩
 ·generalize (cur.toList.take off++ds++cur.toList.drop (off+ds.length)).toArray=aa at hst ⊢;simp only [storeVar,Am,ti.sizeOf,Cc,yB hy,Jz,hl,hsz];simp only [ne_eq,not_true_eq_false,hX];simpa using hst
 ·simp [World.setRow]
 ·rw [setRow_heap w b cur _ T _ Y,<-hl]
def eD{r:Rp α}{set:α->β->α}{x:α}{y:β}{b sz:Nat}{agg:Bool}{p v:Operand}(ti:TI E.P U sz bytes agg z)(hsz:q.sz=sz)(hset:fd r off q set)(hoff:Nat.ble (off+q.sz) r.sz=true)(hp:bk E.N G p (Q (M b off)))(hv:bk E.N G v (tD q y))(k:RG E ops tV rest (s r T b (set x y)::aO) G):RG E ops tV (⟨none,.store U p v,ty,pos,after,none⟩::rest) (s r T b x::aO) G:= .of rfl fun a w S st=>by
 have H:a.eval p=M b off:=hp S a st.facts;obtain⟨ds,W,h3⟩:=hv S a st.facts;obtain⟨⟨hno,cur,h5,h6⟩,_⟩:=st.own.1;have hl:=r.len h6;have hoff' :=vq hoff;obtain⟨w',hr,e1,e2,e3,e4,e5,e6⟩:=lQ ti hsz h3 h5 (off:=off) (by simp at hl;omega);have hrun:(execOp a.eval ⟨none,.store U p v,ty,pos,after,none⟩).run E.P w= .ok .skip w' :=by
  simp [execOp,H,W,Instr.storeAt,M,Instr.sureAddr,hr]
 refine⟨fun c h=>(by cases h),?_⟩;rw [hrun];obtain⟨g1,g2,g3⟩:=qm (aO:=aO) st.sat (s r T b x) (s r T b (set x y)) st.own (fun _=>qW) (fun _=>qW) ⟨e1,e2,e3,e4.1,e4.2⟩ e6 ⟨hno,_,e5,by simpa using hset S _ _ _ _ h6 h3⟩ hno;exact k _ _ S ⟨st.ext.step g1 (fun c hc=>st.own.1.2 c hc),g2,g3,st.facts⟩
def aq{r:Rp α}:fd r 0 r (fun _ y=>y):=fun S cs x ds y H W=>by
 have hl:=r.len H;simpa [<-hl] using W
end
section
variable{ty:TypeId}
def Jf{sz b o:Nat}{p:Operand}(hf:cq E.P T i=some (off,sz))(h0:Nat.beq sz 0=false)(hp:bk E.N G p (Q (M b o))):dw E aO G ⟨dst,.fieldAddr T p i,ty,pos,after,g⟩ (Q (M b (o+off))):=
 .of_pure fun a w S _ _ hF=>by
  have H:a.eval p=M b o:=hp S a hF;obtain⟨fs,f,e1,e2,e3,e4⟩:=JZ hf;have h0' :sz≠0:=fun e=>by subst e;simp at h0
  refine⟨M b (o+off),?_,rfl⟩;simp [execOp,H,M,Instr.fieldAt,mb e1,e2,Instr.sureAddr,fieldPlace,e4,h0',e3,kL]
def aA{r:Rp α}{get:α->β}{x:α}{b sz:Nat}{agg:Bool}{p:Operand}(ti:TI E.P U sz bytes agg z)(hsz:q.sz=sz)(hag:q.agg=agg)(hget:lO r off q get)(hm:s r T b x∈aO)(hp:bk E.N G p (Q (M b off))):
  dw E aO G ⟨dst,.load U p,ty,pos,after,g⟩ (tD q (get x)):=
 .of_pure fun a w S _ ho hf=>by
  have H:a.eval p=M b off:=hp S a hf;obtain⟨⟨_,cur,h5,h6⟩,_⟩:=ho.mem _ hm;have h7:=hget S _ _ h6;refine⟨_,?_,_,rfl,h7⟩;simp [execOp,H,M,Instr.loadAt,Instr.sureAddr,lq ti h5 hsz hag h7]
def bm{r:Rp α}:lO r 0 r (fun x=>x):=fun S cs x h=>by
 have hl:=r.len h;simpa [<-hl] using h
end
end
