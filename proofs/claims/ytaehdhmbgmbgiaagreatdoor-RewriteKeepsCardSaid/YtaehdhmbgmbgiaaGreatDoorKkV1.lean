import Derived.WalkKit
import Derived.Orders
import Derived.Lone
import Derived.RunT
import Derived.Calls
import Derived.RangeFuncIn
import Derived.TacticsIn
import Derived.OrdersIn
import Derived.LoopIn
import Derived.Laws.AppendOwn
import Derived.Deep.Upon
import Derived.Lib.AppendStr
import Derived.IntWalk
set_option linter.all false
namespace Go.Proofs.YtaehdhmbgmbgiaaGreatDoor
open Go IntKind
def bw:= @Option.bind_some
def aR:= @if_neg
def bz:= @if_pos
def ma:= @List.mem_cons_of_mem
def md:= @List.mem_cons_self
def qg:= @List.getElem?_eq_getElem
def kG:= @Nat.le_refl
def iX:= @Bool.and_eq_true
def jM:= @Bool.false_eq_true
def jo:= @List.length_cons
def lj:= @List.length_append
def mf:= @List.mem_singleton
def iW:= @List.mem_cons
def qS:= @List.getElem?_eq_some_iff
def mj:= @List.append_assoc
def kW:= @List.nil_append
def mN:= @List.all_eq_true
def nE:= @decide_eq_true_eq
def rO:= @List.take_of_length_le
def we:= @List.getElem?_append_right
def gT:= @if_false
def oS:= @run_underlying
def ve:= @Nat.le_of_ble_eq_true
def hM:= @if_true
def Ao:= @List.eq_nil_of_length_eq_zero
def nh:= @Nat.zero_le
def qR:= @List.mem_append
def zX:= @List.drop_eq_getElem_cons
def Ba:= @Array.getElem?_eq_some_iff
def ug:= @List.length_nil
def vc:= @Option.some.inj
def D2:= @List.take_append_of_le_length
def zp:= @Nat.eq_of_beq_eq_true
def rM:= @Bool.not_true
def vb:= @List.append_nil
def uf:= @List.drop_drop
def rL:= @List.mem_map
def A9:= @Option.map_eq_some_iff
def yF:= @List.pairwise_cons
def A8:= @List.take_append_drop
def D1:= @List.getElem?_take_of_lt
def xI:= @List.any_eq_true
def va:= @List.map_cons
def EU:= @List.getElem?_append_left
def xv:= @Bool.or_eq_true
def zn:= @Int.toNat_natCast
def yE:= @Bool.not_eq_true
def zW:= @Bool.eq_false_iff
def D0:= @List.drop_eq_nil_of_le
def xu:= @List.drop_zero
def u9:= @Nat.zero_add
def A7:= @List.getElem?_drop
def xr:= @List.all_cons
def Ca:= @Nat.lt_of_lt_of_le
def wN:= @Nat.lt_or_ge
def B8:= @Result.andThen_ok
def A5:= @List.getElem_mem
def Am:= @List.length_map
def FT:= @List.length_singleton
def B7:= @List.cons_append
def Hi:= @List.drop_of_length_le
def A4:= @List.mem_filter
def ET:= @List.map_congr_left
def FS:= @List.mem_of_getElem?
def FR:= @Nat.mul_le_mul_right
def Pp:= @List.drop_append_of_le_length
def Al:= @Bool.true_and
def DZ:= @List.take_length
def xq:= @beq_iff_eq
def Jq:= @List.drop_eq_nil_iff
def Ak:= @Sem.run_bind
def DY:= @Nat.min_eq_left
def FP:= @List.any_eq_false
def B6:= @Bool.false_or
def Ki:= @List.getElem?_eq_none
def Nf:= @List.getElem?_cons_zero
def yD:= @bne_iff_ne
def ES:= @Bool.eq_iff_iff
def TR:= @List.take_succ_eq_append_getElem
def DX:= @List.take_take
def Hh:= @Bool.not_eq_true'
def Hg:= @List.flatMap_cons
def Cj:= @Bool.and_true
def Rd:= @Array.getD_eq_getD_getElem?
def vZ:= @List.map_map
def vY:= @Nat.add_zero
def Es:= @List.length_filter_le
def vg:= @Nat.add_mul
def vf:= @Prod.mk.inj
def At:= @List.length_take
def wP:= @Nat.le_trans
def Er:= @Bool.and_eq_true_iff
def Ep:= @List.mem_append_left
def As:= @List.all_append
def xF:= @List.map_nil
def BX:= @Nat.lt_succ_self
def Co:= @List.getElem?_map
def F3:= @List.mem_of_mem_take
def Iy:= @List.filter_eq_nil_iff
def Ix:= @List.length_replicate
def Cn:= @List.map_append
def Kt:= @decide_eq_false_iff_not
def Ks:= @List.filter_cons_of_neg
def Em:= @List.length_drop
def Iw:= @List.mem_iff_getElem
def Ar:= @Nat.sub_self
def BW:= @List.any_cons
def Cm:= @List.drop_take
def Cl:= @decide_eq_true
def Ck:= @heap_alloc_new
def FZ:= @Option.some.injEq
def FY:= @bne_self_eq_false
def Iv:= @Array.length_toList
def El:= @decide_eq_false
def Iu:= @List.filter_filter
def NW:= @Int.eq_ofNat_of_zero_le
def Is:= @not_false_eq_true
def Kr:= @of_decide_eq_true
def Aq:= @Nat.blt_eq
def Ir:= @wrap_u64
def FW:= @Bool.not_false
def NV:= @List.mem_append_right
def Ro:= @Array.getElem?_replicate
def Rn:= @Option.isSome_iff_exists
def Iq:= @Option.map_some
def Kq:= @List.ext_getElem?
def Kp:= @List.filter_congr
def Rm:= @List.filter_cons_of_pos
def Ip:= @Bool.and_assoc
def Ko:= @beq_self_eq_true
def Kn:= @wrap_i64
def Rl:= @List.dropWhile_sublist
def FV:= @List.all_nil
def FU:= @Nat.le_of_eq
def Rk:= @List.singleton_append
def Rj:= @List.contains_iff_mem
def Km:= @List.any_append
def Io:= @List.cons.inj
def NT:= @List.size_toArray
def Kl:= @Bool.false_and
def NR:= @List.filter_cons
def Ri:= @List.filter_eq_self
def VD:= @List.getElem?_cons_succ
def Kk:= @callsIn_of_wp
def Ap:= @Iff.rfl
def Kj:= @Bool.and_self
def NQ:= @List.length_set
def Rh:= @List.filter_append
def VC:= @List.length_eq_one_iff
def VB:= @MapKept.run_getObj_map
def Rg:= @not_true_eq_false
def NP:= @Nat.mul_le_mul
def NO:= @List.take_left
def VA:= @MapKept.run_checkKey
def Rf:= @decide_eq_decide
def Re:= @List.drop_length
def Sb:Obj->Obj->Prop
 | .cells c E fr,o' => ∃d:List Value,o' = .cells (c.toList++d).toArray E fr
 |o,o' =>o' =o
variable{o:Oper}
def yX(o:Obj):Sb o o:=by
 cases o<;>first|rfl|exact⟨[],by simp⟩
variable{c:Code}{cells:List Value}{d:Nat}{fr:Nat×Nat}{k:Nat}{o' :Obj}
def Ot{o o'' :Obj}(h:Sb o o')(k:Sb o' o''):Sb o o'' :=by
 cases o with
 |cells c E fr=>
  obtain⟨d,rfl⟩:=h;obtain⟨d',rfl⟩:=k;exact⟨d++d',by simp⟩
 |_=>cases h;exact k
variable{off:Nat}
def Gw{c:Array Value}{E:TypeId}(h:Sb (.cells c E fr) o'){n:Nat}(hl:((c.toList.drop off).take n).length=n):
  ∃c',o' = .cells c' E fr/\(c'.toList.drop off).take n=(c.toList.drop off).take n:=by
 obtain⟨d,rfl⟩:=h;refine⟨_,rfl,?_⟩;by_cases hn:n=0
 ·subst hn;simp
 simp only [At,Em]at hl;rw [Pp (by omega),D2 (by simp only [Em];omega)]
abbrev SH:=Nat->Option Obj
def SH.le(S S' :SH):Prop:= ∀b o,S b=some o-> ∃o',S' b=some o' /\Sb o o'
variable{S:SH}
def SH.le_refl(S:SH):SH.le S S:=fun _ o h=>⟨o,h,yX o⟩
variable{S' S'' :SH}{b:Bool}{e:TypeId}
def SH.le_trans(h:SH.le S S')(k:SH.le S' S''):SH.le S S'' :=fun b o e=>let⟨o',I,M⟩:=h b o e;let⟨o'',h3,h4⟩:=k b o' I;⟨o'',h3,Ot M h4⟩
structure Ty where
 p:SH->Value->Prop
 mono: ∀{S S' :SH} {v:Value},SH.le S S' ->p S v->p S' v
structure Rp(α:Type) where
 sz:Nat
 agg:Bool
 rc:SH->List Value->α->Prop
 mono: ∀{S S' :SH} {cs:List Value} {x:α},SH.le S S' ->rc S cs x->rc S' cs x
 len: ∀{S:SH} {cs:List Value} {x:α},rc S cs x->cs.length=sz
 one: ∀{S:SH} {cs:List Value} {x:α},rc S cs x-> ∀c∈cs,c.oneCell' =true
 sc:agg=false->sz=1
def Rp.val{α:Type}(r:Rp α)(cs:List Value):Value:=if r.agg then .agg cs.toArray else cs.headD undef
def Q{α:Type}(r:Rp α)(x:α):Ty where
 p:=fun S v=> ∃cs,v=r.val cs/\r.rc S cs x
 mono:=fun h ⟨cs,e,k⟩=>⟨cs,e,r.mono h k⟩
def Bf:Ty where
 p:=fun _ _=>True
 mono:=fun _ _=>trivial
def tV(u:Value):Ty where
 p:=fun _ v=>v=u
 mono:=fun _ h=>h
def rI(k:IntKind):Rp Int where
 sz:=1
 agg:=false
 rc:=fun _ cs x=>cs=[.int k x]
 mono:=fun _ h=>h
 len:=fun h=>by rw [h];rfl
 one:=fun h c hc=>by subst h;simp at hc;subst hc;rfl
 sc:=fun _=>rfl
def rB:Rp Bool where
 sz:=1
 agg:=false
 rc:=fun _ cs x=>cs=[.bool x]
 mono:=fun _ h=>h
 len:=fun h=>by rw [h];rfl
 one:=fun h c hc=>by subst h;simp at hc;subst hc;rfl
 sc:=fun _=>rfl
abbrev Fy:=List UInt8
def rS:Rp Fy where
 sz:=1
 agg:=false
 rc:=fun _ cs x=>cs=[.string ⟨x.toArray⟩]
 mono:=fun _ h=>h
 len:=fun h=>by rw [h];rfl
 one:=fun h c hc=>by subst h;simp at hc;subst hc;rfl
 sc:=fun _=>rfl
variable{cs:List Value}{v:Value}
def d7{k:IntKind}{n:Int}:(Q (rI k) n).p S v↔v= .int k n:=by
 constructor
 ·rintro⟨cs,rfl,h⟩;have h' :cs=[.int k n]:=h;subst h';rfl
 ·rintro rfl;exact⟨[.int k n],rfl,rfl⟩
def kY:(Q rB b).p S v↔v= .bool b:=by
 constructor
 ·rintro⟨cs,rfl,h⟩;have h' :cs=[.bool b]:=h;subst h';rfl
 ·rintro rfl;exact⟨[.bool b],rfl,rfl⟩
variable{s:Fy}
def Cw:(Q rS s).p S v↔v= .string ⟨s.toArray⟩:=by
 constructor
 ·rintro⟨cs,rfl,h⟩;have h' :cs=[.string ⟨s.toArray⟩]:=h;subst h';rfl
 ·rintro rfl;exact⟨[.string ⟨s.toArray⟩],rfl,rfl⟩
def xX{α:Type}(r:Rp α)(S:SH):List Value->List α->Prop
 |cs,[]=>cs=[]
 |cs,x::xs=> ∃a b,cs=a++b/\r.rc S a x/\xX r S b xs
variable{a:Act}{α:Type}{xs:List α}
def yV{α:Type}{r:Rp α}{S S' :SH}(h:SH.le S S'): ∀{xs:List α} {cs:List Value},xX r S cs xs->xX r S' cs xs
 |[],_,k=>k
 |_::_,_,⟨a,b,e,I,M⟩=>⟨a,b,e,r.mono h I,yV h M⟩
variable{x:Operand}
def s7{α:Type}{r:Rp α}{S:SH}: ∀{xs:List α} {cs:List Value},xX r S cs xs->cs.length=xs.length*r.sz
 |[],_,k=>by rw [show _=_ from k];simp
 |x::xs,_,⟨a,b,e,I,M⟩=>by rw [e,lj,r.len I,s7 M,jo,vg];omega
def JO{α:Type}{r:Rp α}{S:SH}: ∀{xs:List α} {cs:List Value},xX r S cs xs-> ∀c∈cs,c.oneCell' =true
 |[],_,k,c,hc=>by rw [show _=_ from k]at hc;cases hc
 |x::xs,_,⟨a,b,e,I,M⟩,c,hc=>by
  rw [e]at hc;rcases qR.1 hc with h|h
  ·exact r.one I c h
  ·exact JO M c h
variable{ys:List α}
def Bs{α:Type}{r:Rp α}{S:SH}: ∀{xs ys:List α} {cs ds:List Value},xX r S cs xs->xX r S ds ys->xX r S (cs++ds) (xs++ys)
 |[],_,_,_,k,h=>by rw [show _=_ from k];exact h
 |_::_,_,_,_,⟨a,b,e,I,M⟩,h=>⟨a,_,by rw [e,mj],I,Bs M h⟩
def wn{α:Type}{r:Rp α}{S:SH}: ∀{xs ys:List α} {cs:List Value},xX r S cs (xs++ys)->
  xX r S (cs.take (xs.length*r.sz)) xs/\xX r S (cs.drop (xs.length*r.sz)) ys
 |[],_,_,k=>by simp [xX];exact k
 |x::xs,ys,cs,⟨a,b,e,I,M⟩=>by
  have hl:=r.len I;have ih:=wn M;have e1:(x::xs).length*r.sz=a.length+xs.length*r.sz:=by rw [hl,jo,vg];omega
  rw [e,e1,List.take_length_add_append,List.drop_length_add_append];exact⟨⟨a,_,rfl,I,ih.1⟩,ih.2⟩
def Uq{r:Rp α}{x:α}:xX r S cs [x]↔r.rc S cs x:=by
 constructor
 ·rintro⟨a,b,rfl,h,H⟩;rw [show b=[]from H,vb];exact h
 ·intro h;exact⟨cs,[],by simp,h,rfl⟩
variable{i:Nat}
def Br{r:Rp α}(h:xX r S cs xs){x:α}(V:xs[i]? =some x):
  r.rc S ((cs.drop (i*r.sz)).take r.sz) x:=by
 have hi:i<xs.length:=(qS.1 V).1;have e:xs=xs.take i++(x::xs.drop (i+1)):=by
  have:=qS.1 V;rw [<-this.2,<-zX hi,A8]
 have hl:(xs.take i).length=i:=by simp;omega
 rw [e]at h;have M:=(wn h).2;rw [hl]at M;obtain⟨a,b,e2,h3,_⟩:=M;rw [e2,<-r.len h3,NO];exact h3
def RF{α:Type}(r:Rp α)(S:SH)(a:Option Addr)(xs:List α):Prop:=
 xs=[]\/ ∃b off c E fr,a=some ⟨b,off,none⟩/\S b=some (.cells c E fr)/\xX r S ((c.toList.drop off).take (xs.length*r.sz)) xs
def gM{α:Type}(r:Rp α):Rp (List α) where
 sz:=1
 agg:=false
 rc:=fun S cs xs=> ∃a cap,cs=[.slice a xs.length cap]/\xs.length<=cap/\cap<=maxLen/\RF r S a xs
 mono:=fun h ⟨a,cap,e,I,M,h3⟩=>⟨a,cap,e,I,M,h3.imp id fun⟨b,off,c,E,fr,e1,e2,e3⟩=>by
  obtain⟨o',h4,h5⟩:=h _ _ e2;obtain⟨c',rfl,h6⟩:=Gw h5 (s7 e3);exact⟨b,off,c',E,fr,e1,h4,by rw [h6];exact yV h e3⟩⟩
 len:=fun⟨a,cap,e,_⟩=>by rw [e];rfl
 one:=fun⟨a,cap,e,_⟩ c hc=>by rw [e]at hc;simp at hc;subst hc;rfl
 sc:=fun _=>rfl
variable{cap:Nat}
def rC{r:Rp α}:(Q (gM r) xs).p S v↔ ∃a cap,v= .slice a xs.length cap/\xs.length<=cap/\cap<=maxLen/\RF r S a xs:=by
 constructor
 ·rintro⟨cs,rfl,a,cap,rfl,h⟩;exact⟨a,cap,rfl,h⟩
 ·rintro⟨a,cap,rfl,h⟩;exact⟨_,rfl,a,cap,rfl,h⟩
def VM{r:Rp α}:(Q (gM r) []).p S (.slice none 0 0):=rC.2 ⟨none,0,rfl,kG _,nh _,.inl rfl⟩
def bH{α:Type}(r:Rp α)(x:α):Ty where
 p:=fun S v=> ∃b off c E fr,v= .pointer (some ⟨b,off,none⟩)/\S b=some (.cells c E fr)/\r.rc S ((c.toList.drop off).take r.sz) x
 mono:=fun h ⟨b,off,c,E,fr,e1,e2,e3⟩=>by
  obtain⟨o',h4,h5⟩:=h _ _ e2;obtain⟨c',rfl,h6⟩:=Gw h5 (r.len e3);exact⟨b,off,c',E,fr,e1,h4,by rw [h6];exact r.mono h e3⟩
def glob:List (Nat×List Value):=[(0,[.int .i64 (1),.int .i64 (0),.int .u64 (0),.string ⟨([]:List UInt8).toArray⟩,.int .i64 (0),.int .i64 (0),.int .u64 (0),.string ⟨([]:List UInt8).toArray⟩,.int .i64 (1),.int .i64 (1),.int .u64 (0),.string ⟨([]:List UInt8).toArray⟩])]
def aiL(w:World):Prop:=True
structure nC(w:World)(S:SH):Prop where
 at_: ∀b o,S b=some o-> ∃o',w.heap[b]? =some o' /\Sb o o'
 gl: ∀p∈glob,∃c aj fr,S p.1=some (.cells c aj fr)/\c.toList.take p.2.length=p.2
 tb: ∀w' :World,(∀b o,S b=some o-> ∃o',w'.heap[b]? =some o' /\Sb o o')->aiL w'
instance{w:World}{S:SH}:CoeFun (nC w S) (fun _=> ∀b o,S b=some o-> ∃o',w.heap[b]? =some o' /\Sb o o'):=⟨nC.at_⟩
variable{w:World}
def nC.lt(h:nC w S){b:Nat}{o:Obj}(k:S b=some o):b<w.heap.size:=let⟨_,I,_⟩:=h b o k;(Ba.1 I).1
def nC.part(h:nC w S){b:Nat}{c:Array Value}{E:TypeId}(k:S b=some (.cells c E fr)){n:Nat}(hl:((c.toList.drop off).take n).length=n):
  ∃c',w.heap[b]? =some (.cells c' E fr)/\(c'.toList.drop off).take n=(c.toList.drop off).take n:=by
 obtain⟨o',I,M⟩:=h b _ k;obtain⟨c',rfl,h3⟩:=Gw M hl;exact⟨c',I,h3⟩
variable{w' :World}
def nC.same(h:nC w S)(k: ∀b o,S b=some o->w'.heap[b]? =w.heap[b]?):nC w' S:=⟨fun b o e=>by rw [k b o e];exact h b o e,h.gl,h.tb⟩
def vz:Nat->Prop:=fun _=>False
structure kh(B:Nat->Prop)(w:World)(S:SH)(w' :World)(S' :SH):Prop where
 os:w'.os=w.os
 tape:w'.tape=w.tape
 output:w'.output=w.output
 drawn:w.drawn<=w'.drawn
 size:w.heap.size<=w'.heap.size
 heap: ∀k,k<w.heap.size-> ¬B k->w'.heap[k]? =w.heap[k]?
 keep:SH.le S S'
 old: ∀k,k<w.heap.size-> ¬B k->S' k=S k
def kh.refl(B:Nat->Prop)(w:World)(S:SH):kh B w S w S:=⟨rfl,rfl,rfl,kG _,kG _,fun _ _ _=>rfl,SH.le_refl _,fun _ _ _=>rfl⟩
variable{w'' :World}
def kh.trans{B:Nat->Prop}(h:kh B w S w' S')(k:kh B w' S' w'' S''):kh B w S w'' S'' :=
 ⟨k.os.trans h.os,k.tape.trans h.tape,k.output.trans h.output,wP h.drawn k.drawn,wP h.size k.size,
  fun i hi H=>(k.heap i (Ca hi h.size) H).trans (h.heap i hi H),SH.le_trans h.keep k.keep,
  fun i hi H=>(k.old i (Ca hi h.size) H).trans (h.old i hi H)⟩
variable{C:Nat->Prop}
def kh.step{B:Nat->Prop}(h:kh B w S w' S')(k:kh C w' S' w'' S'')(hC: ∀b,C b->w.heap.size<=b\/B b):kh B w S w'' S'' :=
 ⟨k.os.trans h.os,k.tape.trans h.tape,k.output.trans h.output,wP h.drawn k.drawn,wP h.size k.size,
  fun i hi H=>(k.heap i (Ca hi h.size) (fun hc=>(hC i hc).elim (fun h=>by omega) H)).trans (h.heap i hi H),SH.le_trans h.keep k.keep,
  fun i hi H=>(k.old i (Ca hi h.size) (fun hc=>(hC i hc).elim (fun h=>by omega) H)).trans (h.old i hi H)⟩
def kh.more{B:Nat->Prop}(h:kh B w S w' S')(k: ∀b,B b->C b):kh C w S w' S' :=
 ⟨h.os,h.tape,h.output,h.drawn,h.size,fun i hi H=>h.heap i hi (fun h=>H (k i h)),h.keep,fun i hi H=>h.old i hi (fun h=>H (k i h))⟩
def kh.step0{B:Nat->Prop}(h:kh B w S w' S')(k:kh vz w' S' w'' S''):kh B w S w'' S'' :=h.step k fun _ H=>H.elim
structure OE where
 fp:Nat->Prop
 p:World->SH->Prop
 here: ∀{w S},p w S-> ∀k,fp k->k<w.heap.size
 kept: ∀{C w w' S S'},p w S->kh C w S w' S' ->(∀k,fp k-> ¬C k)->p w' S'
def OE.holds(e:OE)(base:Nat)(B:Nat->Prop)(w:World)(S:SH):Prop:=e.p w S/\ ∀k,e.fp k->base<=k\/B k
def OE.apart(e f:OE):Prop:= ∀b,e.fp b-> ¬f.fp b
def dW(base:Nat)(B:Nat->Prop)(w:World)(S:SH):List OE->Prop
 |[]=>True
 |e::O=>e.holds base B w S/\(∀f∈O,e.apart f)/\dW base B w S O
def QZ{e:OE}{base:Nat}{B:Nat->Prop}(h:e.holds base B w S)(k:kh C w S w' S')(hC: ∀b,e.fp b-> ¬C b):e.holds base B w' S' :=⟨e.kept h.1 k hC,h.2⟩
variable{O:List OE}{f:FuncId}
def dW.ext{base:Nat}{B:Nat->Prop}(k:kh C w S w' S'): ∀{O:List OE},dW base B w S O->(∀e∈O,∀b,e.fp b-> ¬C b)->dW base B w' S' O
 |[],_,_=>trivial
 |e::_,⟨I,M,h3⟩,hC=>⟨QZ I k (hC e (md ..)),M,dW.ext k h3 fun f hf=>hC f (ma _ hf)⟩
def dW.ext0{base:Nat}{B:Nat->Prop}(k:kh vz w S w' S')(h:dW base B w S O):dW base B w' S' O:=
 h.ext k fun _ _ _ _ H=>H
def dW.mem{base:Nat}{B:Nat->Prop}: ∀{O:List OE},dW base B w S O-> ∀e∈O,e.holds base B w S
 |_::_,⟨I,_,_⟩,_,.head _=>I
 |_::_,⟨_,_,h3⟩,_,.tail _ hm=>dW.mem h3 _ hm
abbrev pC:=List (Nat×Ty)
def cH:pC->Nat->Option Ty
 |[],_=>none
 |(k,t)::G,j=>bif Nat.beq k j then some t else cH G j
structure Fr where
 n:Nat
 ds:List Deferred
structure du(N:Fr)(S:SH)(a:Act)(G:pC):Prop where
 size:a.tmps.size=N.n
 defers:a.defers=N.ds
 at_: ∀k t,cH G k=some t->t.p S (a.tmps.getD k undef)
variable{G:pC}{j:Nat}{t:Ty}
def du.mono{N:Fr}(h:du N S a G)(k:SH.le S S'):du N S' a G:=⟨h.size,h.defers,fun j t e=>t.mono k (h.at_ j t e)⟩
def du.sub{N:Fr}{G' :pC}(h:du N S a G)(k: ∀j t,cH G' j=some t->cH G j=some t):du N S a G' :=⟨h.size,h.defers,fun j t e=>h.at_ j t (k j t e)⟩
variable{u:OE}
def du.put{N:Fr}(h:du N S a G)(hd:Nat.blt d N.n=true)(hv:t.p S v):du N S (a.put (some d) v) ((d,t)::G):=by
 have hd' :d<N.n:=by simpa [Aq] using hd
 refine⟨by simp [Act.put,h.size],h.defers,fun j u e=>?_⟩;unfold cH at e;by_cases hj:d=j
 ·subst hj;have e' :t=u:=by simpa using e
  rw [e']at hv;simp [Act.put,Rd,h.size,hd',hv]
 ·have H:Nat.beq d j=false:=by cases hh:Nat.beq d j with
   |false=>rfl
   |true=>exact absurd (zp hh) hj
  rw [H]at e;have:=h.at_ j u e;simpa [Act.put,Rd,Array.getElem?_setIfInBounds,hj] using this
def T9:pC->pC->Prop
 |[],_=>True
 |(k,t)::G',G=>cH G k=some t/\T9 G' G
def N7: ∀{G' G:pC},T9 G' G-> ∀j t,cH G' j=some t->cH G j=some t
 |(k,t)::G',G,⟨I,M⟩,j,u,e=>by
  unfold cH at e;by_cases H:Nat.beq k j=true
  ·rw [H]at e;have:=zp H;subst this;simp only [cond_true]at e;rw [<-e];exact I
  ·rw [yE]at H;rw [H]at e;exact N7 M j u e
def be(N:Fr)(G:pC)(x:Operand)(t:Ty):Prop:= ∀S a,du N S a G->t.p S (a.eval x)
def J{N:Fr}(h:cH G k=some t):be N G (.tmp k) t:=fun _ _ hF=>hF.at_ k t h
def hI{N:Fr}{k:IntKind}{n:Int}:be N G (.const (.int k n)) (Q (rI k) n):=fun _ _ _=>d7.2 rfl
def hB{N:Fr}:be N G (.const (.bool b)) (Q rB b):=fun _ _ _=>kY.2 rfl
def hS{N:Fr}{s:Array UInt8}:be N G (.const (.string ⟨s⟩)) (Q rS s.toList):=fun _ _ _=>Cw.2 rfl
def JB{N:Fr}{r:Rp α}:be N G (.const (.slice none 0 0)) (Q (gM r) []):=fun _ _ _=>VM
def hV{N:Fr}:be N G (.const v) (tV v):=fun _ _ _=>rfl
section
variable{P:Program}
end
def fw(r:Option Nat):Fence:={fn:=fun _=>True,depth:=none,alive:=false,round:=r}
variable{args:α->List Ty}
def ny{r:Option Nat}{n:Nat}{P:Program}{args:Array Value}{R:Ending->World->Prop}:CallsIn (fw r) n P f args w R↔Calls P f args w R:=callsIn_wide
def SR{r:Option Nat}{n:Nat}:(fw r).depth.isSome=true->1<=n:=fun h=>by cases h
structure En where
 P:Program
 N:Fr
 B:Nat->Prop
 w0:World
 S0:SH
 r:Option Nat
def En.base(E:En):Nat:=E.w0.heap.size
def opQ(P:Program)(o:Oper)(a:Act)(K:Act->World->Prop):Result Next->Prop
 | .ok (.value v) w' =>K (a.put o.dst v) w'
 | .ok .skip w' =>K (a.put o.dst undef) w'
 | .ok (.enter f args) w' =>Calls P f args w' fun e w'' => ∃v,e= .returned v/\K (a.put o.dst v) w''
 | .ok (.round l f tmps assign body) w' =>RoundIn (fw none) 0 P l f tmps assign body w' fun e w'' => ∃v,e= .returned v/\K (a.put o.dst v) w''
 |_=>False
def Sa(P:Program)(o:Oper)(a:Act)(w:World)(K:Act->World->Prop):Prop:=(∀c,o.op≠ .defer c)/\opQ P o a K ((execOp a.eval o).run P w)
variable{l:Option Nat}
def Un{r:Option Nat}{n:Nat}{P:Program}{l:Nat}{tmps:Array Value}{assign body:Code}{R:Ending->World->Prop}(h:RoundIn (fw none) 0 P l f tmps assign body w R):RoundIn (fw r) n P l f tmps assign body w R:=
 ⟨trivial,fun c cs _=>h.2 c cs (fun _ hd=>by cases hd)⟩
variable{K K' :Act->World->Prop}
def ZQ{P:Program}(hK: ∀a w,K a w->K' a w){r:Result Next}(h:opQ P o a K r):opQ P o a K' r:=by
 cases r with
 |ok n w=>
  cases n<;>simp only [opQ]at h ⊢
  case value=>exact hK _ _ h
  case skip=>exact hK _ _ h
  case enter f args=>exact h.mono fun e w' ⟨v,he,hk⟩=>⟨v,he,hK _ _ hk⟩
  case round l f tmps assign body=>exact h.mono fun e w' ⟨v,he,hk⟩=>⟨v,he,hK _ _ hk⟩
 |halt x w=>simp only [opQ]at h
def s9{P:Program}(hK: ∀a w,K a w->K' a w)(h:Sa P o a w K):Sa P o a w K' :=⟨h.1,ZQ hK h.2⟩
variable{tD:Exit->Act->World->Prop}{β:Type}{res:β->Ty}
def xJ{P:Program}{r:Option Nat}(hK: ∀a w,K a w->K' a w)(h:Sa P o a w K):o.wpIn (fw r) 0 P a w K' tD:=by
 obtain⟨hd,h⟩:=h;refine⟨fun _ _=>trivial,?_⟩;rw [Oper.semAt_eq _ _ _ hd];generalize (execOp a.eval o).run P w=res at h
 cases res with
 |ok n w=>
  cases n<;>simp only [opQ]at h<;>simp only [Oper.uponIn]
  case value=>exact hK _ _ h
  case skip=>exact hK _ _ h
  case enter f args=>exact⟨SR,ny.2 (h.mono fun e w' ⟨v,he,hk⟩=>by subst he;exact hK _ _ hk)⟩
  case round l f tmps assign body=>exact⟨SR,(Un h).mono fun e w' ⟨v,he,hk⟩=>by subst he;exact hK _ _ hk⟩
 |halt x w=>simp only [opQ]at h
def cu(E:En)(O:List OE)(G:pC)(o:Oper)(t:Ty):Prop:=
 ∀a w S,nC w S->dW E.base E.B w S O->du E.N S a G->
  Sa E.P o a w (fun a' w' => ∃v S',a' =a.put o.dst v/\kh vz w S w' S' /\nC w' S' /\t.p S' v)
structure St(E:En)(O:List OE)(G:pC)(a:Act)(w:World)(S:SH):Prop where
 ext:kh E.B E.w0 E.S0 w S
 sat:nC w S
 own:dW E.base E.B w S O
 facts:du E.N S a G
def RG(E:En)(ops:Array Oper)(tD:Exit->Act->World->Prop)(l:List Oper)(O:List OE)(G:pC):Prop:= ∀a w S,St E O G a w S->wpListIn (fw E.r) 0 E.P ops tD l a w
def CG(E:En)(tD:Exit->Act->World->Prop)(c:Code)(O:List OE)(G:pC):Prop:= ∀a w S,St E O G a w S->c.wpIn (fw E.r) 0 E.P tD a w
def AT(E:En)(tD:Exit->Act->World->Prop)(e:Exit)(O:List OE)(G:pC):Prop:= ∀a w S,St E O G a w S->tD e a w
variable{after:Array Edge}{fn:Func}{ops:Array Oper}{pos:String}{ts:List Ty}{y:Operand}
section
variable{E:En}{G' :pC}{l:List Oper}
def St.step(h:St E O G a w S)(k:kh vz w S w' S')(hs:nC w' S')(hd:Nat.blt d E.N.n=true)(hv:t.p S' v):
  St E O ((d,t)::G) (a.put (some d) v) w' S' :=
 ⟨h.ext.step0 k,hs,h.own.ext0 k,(h.facts.mono k.keep).put hd hv⟩
def St.sub(h:St E O G a w S)(k:T9 G' G):St E O G' a w S:=⟨h.ext,h.sat,h.own,h.facts.sub (N7 k)⟩
def RG.of(hg:o.guard=none)(h: ∀a w S,St E O G a w S->Sa E.P o a w (fun a' w' =>wpListIn (fw E.r) 0 E.P ops tD l a' w')):RG E ops tD (o::l) O G:=fun a w S st=>
 wpListIn_plain hg fun _ hK=>xJ hK (h a w S st)
def t7{op:Op}{ty:TypeId}(h:cu E O G ⟨some d,op,ty,pos,after,none⟩ t)(hd:Nat.blt d E.N.n=true)(k:RG E ops tD l O ((d,t)::G)):
  RG E ops tD (⟨some d,op,ty,pos,after,none⟩::l) O G:= .of rfl fun a w S st=>
 s9 (fun a' w' ⟨_,_,ha,he,hs,hv⟩=>by subst ha;exact k _ _ _ (st.step he hs hd hv)) (h a w S st.sat st.own st.facts)
def bD(h:AT E tD .normal O G):RG E ops tD [] O G:=fun a w S st=>h a w S st
def aG{id:Nat}{l:List Oper}(h:RG E l.toArray tD l O G):CG E tD (.region id l.toArray false) O G:=fun a w S st=>wpIn_region_lit (h a w S st)
def aC{x y:Code}(h:CG E (Exit.then (y.wpIn (fw E.r) 0 E.P tD) tD) x O G):CG E tD (.seq x y) O G:=fun a w S st=>wpIn_seq (h a w S st)
def aw{y:Code}(h:CG E tD y O G):AT E (Exit.then (y.wpIn (fw E.r) 0 E.P tD) tD) .normal O G:=h
def bO(h:AT E tD .normal O G):CG E tD .skip O G:=fun a w S st=>wpIn_skip (h a w S st)
def ji{id:Nat}(h:AT E tD (.exit id) O G):CG E tD (.exit id) O G:=fun a w S st=>wpIn_exit (h a w S st)
def jm(h:AT E tD .ret O G):CG E tD .ret O G:=fun a w S st=>wpIn_ret (h a w S st)
def MY(h:CG E tD c O G')(k:T9 G' G):CG E tD c O G:=fun a w S st=>h a w S (st.sub k)
def cQ{e:Exit}(h:AT E tD e O G')(k:T9 G' G):AT E tD e O G:=fun a w S st=>h a w S (st.sub k)
def tu{c:Operand}{x y:Code}(H:be E.N G c (Q rB b))(V:b=true->CG E tD x O G)(hy:b=false->CG E tD y O G):CG E tD (.cond c x y) O G:=fun a w S st=>by
 have hv:a.eval c= .bool b:=kY.1 (H S a st.facts);refine wpIn_cond hv ?_
 cases b with
 |true=>exact V rfl a w S st
 |false=>exact hy rfl a w S st
def an{id:Nat}(h:CG E (Exit.inBlock id tD) c O G):CG E tD (.block id c) O G:=fun a w S st=>wpIn_block (h a w S st)
def CQ(r:Option Nat)(P:Program)(c:Code)(tD:Exit->Act->World->Prop)(a:Act)(w:World):Prop:=
 ∀(b:Frame) (k:List Item) (cs:List Frame),b.roundOf=r-> ∃e a' w',tD e a' w' /\ArrivesIn (Machine.fenced P (fw r)) P (lone (b.atR a (.code c:: .inLoop c::k)) cs w) b k cs e a' w'
def Wn{r:Option Nat}{n:Nat}:(fw r).room n:=fun _ hd=>by cases hd
def Pv{r:Option Nat}{P:Program}{tD:Exit->Act->World->Prop}(h:CQ r P c tD a w):(Code.loop c).wpIn (fw r) 0 P tD a w:=fun b k cs hro H hr=>
 let⟨e,a',w',hq,harr⟩:=h b k cs hro
 ⟨e,a',w',hq,.of_steps (.one (fenced_calm H hr rfl) stepR_loop) harr⟩
def Ny{r:Option Nat}{P:Program}{tD:Exit->Act->World->Prop}(h:c.wpIn (fw r) 0 P (Exit.then (CQ r P c tD) tD) a w):CQ r P c tD a w:=by
 intro b k cs hro;obtain⟨e,a₁,w₁,hq,harr⟩:=h b (.inLoop c::k) cs hro trivial Wn
 cases e with
 |normal=>
  obtain⟨e₂,a₂,w₂,hq₂,harr₂⟩:=hq b k cs hro;exact⟨e₂,a₂,w₂,hq₂,.of_steps (StepsIn.trans harr (.one (fenced_calm (n:=0) (F:=fw r) trivial Wn rfl) stepR_inLoop)) harr₂⟩
 |exit id=>exact⟨_,a₁,w₁,hq,.pass (x:= .inLoop c) rfl (fun _ _=> .inl (by simp)) harr⟩
 |goto l=>exact⟨_,a₁,w₁,hq,.pass (x:= .inLoop c) rfl (fun _ _=> .inl (by simp)) harr⟩
 |ret=>exact⟨_,a₁,w₁,hq,.pass (x:= .inLoop c) rfl (fun _ _=> .inl (by simp)) harr⟩
 |panic ch=>exact⟨_,a₁,w₁,hq,.pass (x:= .inLoop c) rfl (fun _ _=> .inl (by simp)) harr⟩
 |outgrown=>exact⟨_,a₁,w₁,hq,.pass (x:= .inLoop c) rfl (fun _ _=> .inl (by simp)) harr⟩
def LG(E:En)(tD:Exit->Act->World->Prop)(c:Code)(O:List OE)(G:pC):Prop:= ∀a w S,St E O G a w S->CQ E.r E.P c tD a w
def bM(h:LG E tD c O G):CG E tD (.loop c) O G:=fun a w S st=>Pv (h a w S st)
def ig(h:CG E (Exit.then (CQ E.r E.P c tD) tD) c O G):LG E tD c O G:=fun a w S st=>Ny (h a w S st)
def aI(h:LG E tD c O G')(k:T9 G' G):LG E tD c O G:=fun a w S st=>h a w S (st.sub k)
def bg(h:LG E tD c O G):AT E (Exit.then (CQ E.r E.P c tD) tD) .normal O G:=h
def bh{id:Nat}(h:AT E tD (.exit id) O G):AT E (Exit.then K tD) (.exit id) O G:=h
def am(h:AT E tD .ret O G):AT E (Exit.then K tD) .ret O G:=h
def tz{id:Nat}(h:AT E tD .ret O G):AT E (Exit.inBlock id tD) .ret O G:=h
def bt{id:Nat}(h:AT E tD .normal O G):AT E (Exit.inBlock id tD) .normal O G:=h
def d5{id:Nat}(h:AT E tD .normal O G):AT E (Exit.inBlock id tD) (.exit id) O G:=fun a w S st=>by
 simp only [Exit.inBlock,hM];exact h a w S st
def cT{id id' :Nat}(hne:Nat.beq id' id=false)(h:AT E tD (.exit id') O G):AT E (Exit.inBlock id tD) (.exit id') O G:=fun a w S st=>by
 have:id' ≠id:=fun e=>by subst e;simp at hne
 simp only [Exit.inBlock,this,gT];exact h a w S st
def B5(S:SH):List Ty->List Value->Prop
 |[],[]=>True
 |t::ts,v::vs=>t.p S v/\B5 S ts vs
 |_,_=>False
def B5.mono(h:SH.le S S'): ∀{ts:List Ty} {vs:List Value},B5 S ts vs->B5 S' ts vs
 |[],[],_=>trivial
 |t::_,_::_,⟨I,M⟩=>⟨t.mono h I,B5.mono h M⟩
def B5.length: ∀{ts:List Ty} {vs:List Value},B5 S ts vs->vs.length=ts.length
 |[],[],_=>rfl
 |_::_,_::_,⟨_,M⟩=>by simp [B5.length M]
def bZ(P:Program)(f:FuncId)(ts:List Ty)(t:Ty):Prop:=
 ∀w S vs,nC w S->B5 S ts vs->Calls P f vs.toArray w fun e w' => ∃v S',e= .returned v/\kh vz w S w' S' /\nC w' S' /\t.p S' v
def Tb(E:En)(t:Ty):Ending->World->Prop:=fun e w' => ∃v S',e= .returned v/\kh E.B E.w0 E.S0 w' S' /\nC w' S' /\t.p S' v
def xH(k:Nat):List Ty->pC
 |[]=>[]
 |t::ts=>(k,t)::xH (k+1) ts
def LQ: ∀(ts:List Ty) (k j:Nat) (t:Ty),cH (xH k ts) j=some t-> ∃i,j=k+i/\ts[i]? =some t
 |[],_,_,_,h=>by simp [xH,cH]at h
 |u::ts,k,j,t,h=>by
  unfold xH cH at h;by_cases H:Nat.beq k j=true
  ·rw [H]at h;exact⟨0,by rw [zp H];rfl,by simpa using h⟩
  ·rw [yE]at H;rw [H]at h;obtain⟨i,I,M⟩:=LQ ts (k+1) j t h;exact⟨i+1,by omega,by simpa using M⟩
def B5.at_: ∀{ts:List Ty} {vs:List Value} (_:B5 S ts vs) (i:Nat) (t:Ty),ts[i]? =some t-> ∃v,vs[i]? =some v/\t.p S v
 |_::_,v::_,⟨I,_⟩,0,t,h=>⟨v,rfl,by simp at h;rw [<-h];exact I⟩
 |_::ts,_::vs,⟨_,M⟩,i+1,t,h=>by simpa using B5.at_ M i t (by simpa using h)
def qI{vs:List Value}(h:B5 S ts vs)(n:Nat)(hn:ts.length<=n):
  du ⟨n,[]⟩ S {tmps:=vs.toArray++Array.replicate (n-vs.toArray.size) undef,defers:=[]} (xH 0 ts):=by
 have hl:=h.length;refine⟨by simp;omega,rfl,fun j t hj=>?_⟩;obtain⟨i,e,hi⟩:=LQ ts 0 j t hj;have e' :j=i:=by omega
 subst e';obtain⟨v,hv,J⟩:=h.at_ j t hi;have hlt:j<vs.length:=(qS.1 hv).1;have:(vs.toArray++Array.replicate (n-vs.toArray.size) undef).getD j undef=v:=by
  rw [Rd,Array.getElem?_append_left (by simpa using hlt)];simp [hv]
 rw [this];exact J
def QU{P:Program}(hf:P.funcs[f]? =some fn)(H:fn.body=some c)(hn:ts.length<=fn.ntmps)(h: ∀w0 S0,CG ⟨P,⟨fn.ntmps,[]⟩,vz,w0,S0,none⟩ (bodyPost P fn (Tb ⟨P,⟨fn.ntmps,[]⟩,vz,w0,S0,none⟩ t)) c [] (xH 0 ts)):bZ P f ts t:=by
 intro w S vs hs hv;exact ny.1 (Kk (F:=fw none) (n:=0) hf H trivial (h w S _ w S ⟨kh.refl _ _ _,hs,trivial,qI hv _ hn⟩))
def qU(P:Program)(fn:Func)(k:Nat)(h:fn.results= #[.tmp k])(tmps:Array Value)(w:World):(results fn tmps).run P w= .ok (tmps.getD k undef) w:=by
 simp [results,h]
def aM{P:Program}{N:Nat}{B:Nat->Prop}{w0:World}{S0:SH}(hr:fn.results= #[.tmp k])(hk:cH G k=some t):
  AT ⟨P,⟨N,[]⟩,B,w0,S0,none⟩ (bodyPost P fn (Tb ⟨P,⟨N,[]⟩,B,w0,S0,none⟩ t)) .ret O G:=fun _ _ S st=>
 ⟨st.facts.defers,_,qU P fn k hr _ _,_,S,rfl,st.ext,st.sat,st.facts.at_ k t hk⟩
def tT(ts:List Ty):Ty where
 p:=fun S v=> ∃vs,v= .tuple vs.toArray/\B5 S ts vs
 mono:=fun h k=>by obtain⟨vs,e,k⟩:=k;exact⟨vs,e,B5.mono h k⟩
def Ju(P:Program)(fn:Func)(j k:Nat)(h:fn.results= #[.tmp j,.tmp k])(tmps:Array Value)(w:World):(results fn tmps).run P w= .ok (.tuple #[tmps.getD j undef,tmps.getD k undef]) w:=by
 simp [results,h]
def dM{P:Program}{N:Nat}{B:Nat->Prop}{w0:World}{S0:SH}{u:Ty}(hr:fn.results= #[.tmp j,.tmp k])(hj:cH G j=some t)(hk:cH G k=some u):
  AT ⟨P,⟨N,[]⟩,B,w0,S0,none⟩ (bodyPost P fn (Tb ⟨P,⟨N,[]⟩,B,w0,S0,none⟩ (tT [t,u]))) .ret O G:=fun _ _ S st=>
 ⟨st.facts.defers,_,Ju P fn j k hr _ _,_,S,rfl,st.ext,st.sat,[_,_],rfl,st.facts.at_ j t hj,st.facts.at_ k u hk,trivial⟩
def AA(P:Program)(fn:Func)(h:fn.results= #[])(tmps:Array Value)(w:World):(results fn tmps).run P w= .ok (.tuple #[]) w:=by
 simp [results,h]
end
variable{dst:Option Tmp}{g:Option (Nat×Bool)}{k' :IntKind}{m:Int}{xt yt:TypeId}
section
variable{E:En}{ty:TypeId}
def cu.of_run(h: ∀a w S,nC w S->dW E.base E.B w S O->du E.N S a G->
  ∃v w' S',(execOp a.eval o).run E.P w= .ok (.value v) w' /\kh vz w S w' S' /\nC w' S' /\t.p S' v)(hd: ∀c,o.op≠ .defer c:=by intro c h;cases h):cu E O G o t:=fun a w S hs ho hf=>by
 obtain⟨v,w',S',hr,he,hs',hv⟩:=h a w S hs ho hf;refine⟨hd,?_⟩;rw [hr];exact⟨v,S',rfl,he,hs',hv⟩
def cu.of_pure(h: ∀a w S,nC w S->dW E.base E.B w S O->du E.N S a G-> ∃v,(execOp a.eval o).run E.P w= .ok (.value v) w/\t.p S v)(hd: ∀c,o.op≠ .defer c:=by intro c h;cases h):cu E O G o t:=
 .of_run (fun a w S hs ho hf=>let⟨v,hr,hv⟩:=h a w S hs ho hf;⟨v,w,S,hr,kh.refl _ _ _,hs,hv⟩) hd
def bQ(V:be E.N G x t):cu E O G ⟨dst,.move x,ty,pos,after,g⟩ t:=
 .of_pure fun a _ S _ _ hf=>⟨a.eval x,rfl,V S a hf⟩
def bu(V:be E.N G x t):cu E O G ⟨dst,.assign x,ty,pos,after,g⟩ t:=
 .of_pure fun a _ S _ _ hf=>⟨a.eval x,rfl,V S a hf⟩
def JQ{c:Operand}(hc:be E.N G c (Q rB b))(V:b=true->be E.N G x t)(hy:b=false->be E.N G y t):cu E O G ⟨dst,.pick c x y,ty,pos,after,g⟩ t:=
 .of_pure fun a _ S _ _ hf=>by
  have I:a.eval c= .bool b:=kY.1 (hc S a hf);refine⟨if b then a.eval x else a.eval y,by simp [execOp,I,asBool],?_⟩
  cases b with
  |true=>exact V rfl S a hf
  |false=>exact hy rfl S a hf
section
variable{k:IntKind}{n:Int}
def Jb{P:Program}{op:BinOp}{xt:TypeId}{x y:Operand}{k:IntKind}{m n:Int}:(eqGuard op xt x y (.int k m) (.int k' n)).run P w= .ok () w:=by
 unfold eqGuard;cases op<;>rfl
def xz{op:BinOp}(V:be E.N G x (Q (rI k) m))(hy:be E.N G y (Q (rI k) n))(hv: ∀P w,(binOp op xt (.int k m) (.int k n)).run P w= .ok v w)(J: ∀S,t.p S v):
  cu E O G ⟨dst,.binOp op xt x y yt,ty,pos,after,g⟩ t:=
 .of_pure fun a w S _ _ hf=>by
  have I:a.eval x= .int k m:=d7.1 (V S a hf);have M:a.eval y= .int k n:=d7.1 (hy S a hf);refine⟨v,?_,J S⟩;simp [execOp,I,M,Jb,hv]
def mC(V:be E.N G x (Q (rI k) m))(hy:be E.N G y (Q (rI k) n)):cu E O G ⟨dst,.binOp .add xt x y yt,ty,pos,after,g⟩ (Q (rI k) (k.wrap (m+n))):=
 xz V hy (fun _ _=>by simp [binOp,Op.intArith]) (fun _=>d7.2 rfl)
def fq(V:be E.N G x (Q (rI k) m))(hy:be E.N G y (Q (rI k) n)):cu E O G ⟨dst,.binOp .sub xt x y yt,ty,pos,after,g⟩ (Q (rI k) (k.wrap (m-n))):=
 xz V hy (fun _ _=>by simp [binOp,Op.intArith]) (fun _=>d7.2 rfl)
def Fl(V:be E.N G x (Q (rI k) m))(hy:be E.N G y (Q (rI k) n)):cu E O G ⟨dst,.binOp .mul xt x y yt,ty,pos,after,g⟩ (Q (rI k) (k.wrap (m*n))):=
 xz V hy (fun _ _=>by simp [binOp,Op.intArith]) (fun _=>d7.2 rfl)
def agF(V:be E.N G x (Q (rI k) m))(hy:be E.N G y (Q (rI k) n))(h0:n≠0):cu E O G ⟨dst,.binOp .quo xt x y yt,ty,pos,after,g⟩ (Q (rI k) (k.wrap (m.tdiv n))):=
 xz V hy (fun _ _=>by simp [binOp,Op.intDiv,h0]) (fun _=>d7.2 rfl)
def jk(V:be E.N G x (Q (rI k) m))(hy:be E.N G y (Q (rI k) n)):cu E O G ⟨dst,.binOp .lss xt x y yt,ty,pos,after,g⟩ (Q rB (decide (m<n))):=
 xz V hy (fun _ _=>by simp [binOp,Op.intCmp]) (fun _=>kY.2 rfl)
def sv(V:be E.N G x (Q (rI k) m))(hy:be E.N G y (Q (rI k) n)):cu E O G ⟨dst,.binOp .leq xt x y yt,ty,pos,after,g⟩ (Q rB (decide (m<=n))):=
 xz V hy (fun _ _=>by simp [binOp,Op.intCmp]) (fun _=>kY.2 rfl)
def oI(V:be E.N G x (Q (rI k) m))(hy:be E.N G y (Q (rI k) n)):cu E O G ⟨dst,.binOp .gtr xt x y yt,ty,pos,after,g⟩ (Q rB (decide (n<m))):=
 xz V hy (fun _ _=>by simp [binOp,Op.intCmp]) (fun _=>kY.2 rfl)
def iZ(V:be E.N G x (Q (rI k) m))(hy:be E.N G y (Q (rI k) n)):cu E O G ⟨dst,.binOp .geq xt x y yt,ty,pos,after,g⟩ (Q rB (decide (n<=m))):=
 xz V hy (fun _ _=>by simp [binOp,Op.intCmp]) (fun _=>kY.2 rfl)
def mb(V:be E.N G x (Q (rI k) m))(hy:be E.N G y (Q (rI k) n)):cu E O G ⟨dst,.binOp .eql xt x y yt,ty,pos,after,g⟩ (Q rB (m==n)):=
 xz V hy (fun _ _=>by simp [binOp,Op.intCmp]) (fun _=>kY.2 rfl)
def iO(V:be E.N G x (Q (rI k) m))(hy:be E.N G y (Q (rI k) n)):cu E O G ⟨dst,.binOp .neq xt x y yt,ty,pos,after,g⟩ (Q rB (m !=n)):=
 xz V hy (fun _ _=>by simp [binOp,Op.intCmp]) (fun _=>kY.2 rfl)
def nV(op:BinOp)(k:IntKind)(x y:Int):Int:=
 k.wrap (match op with
  | .and=>(BitVec.ofInt k.bits x&&&BitVec.ofInt k.bits y).toNat
  | .or=>(BitVec.ofInt k.bits x|||BitVec.ofInt k.bits y).toNat
  | .xor=>(BitVec.ofInt k.bits x^^^BitVec.ofInt k.bits y).toNat
  |_=>(BitVec.ofInt k.bits x&&& ~~~BitVec.ofInt k.bits y).toNat:Nat)
def HI(V:be E.N G x (Q (rI k) m))(hy:be E.N G y (Q (rI k) n)):cu E O G ⟨dst,.binOp .and xt x y yt,ty,pos,after,g⟩ (Q (rI k) (nV .and k m n)):=
 xz V hy (fun _ _=>by simp [binOp,Op.intBits];rfl) (fun _=>d7.2 rfl)
def HE(V:be E.N G x (Q (rI k) m))(hy:be E.N G y (Q (rI k) n)):cu E O G ⟨dst,.binOp .xor xt x y yt,ty,pos,after,g⟩ (Q (rI k) (nV .xor k m n)):=
 xz V hy (fun _ _=>by simp [binOp,Op.intBits];rfl) (fun _=>d7.2 rfl)
def ZR{op:BinOp}(V:be E.N G x (Q (rI k) m))(hy:be E.N G y (Q (rI k') n))(hv: ∀P w,(binOp op xt (.int k m) (.int k' n)).run P w= .ok v w)(J: ∀S,t.p S v):
  cu E O G ⟨dst,.binOp op xt x y yt,ty,pos,after,g⟩ t:=
 .of_pure fun a w S _ _ hf=>by
  have I:a.eval x= .int k m:=d7.1 (V S a hf);have M:a.eval y= .int k' n:=d7.1 (hy S a hf);refine⟨v,?_,J S⟩;simp [execOp,I,M,Jb,hv]
def HF(V:be E.N G x (Q (rI k) m))(hy:be E.N G y (Q (rI k') n))(h0:0<=n):cu E O G ⟨dst,.binOp .shr xt x y yt,ty,pos,after,g⟩ (Q (rI k) (m.fdiv (2^(min n.toNat k.bits)))):=
 ZR V hy (fun _ _=>by simp [binOp,Op.shift,Int.not_lt.2 h0]) (fun _=>d7.2 rfl)
def HG(V:be E.N G x (Q (rI k) m)):cu E O G ⟨dst,.unOp .neg xt x,ty,pos,after,g⟩ (Q (rI k) (k.wrap (0-m))):=
 .of_pure fun a w S _ _ hf=>by
  have I:a.eval x= .int k m:=d7.1 (V S a hf);exact⟨.int k (k.wrap (0-m)),by simp [execOp,I,Op.unary,Op.intArith],d7.2 rfl⟩
def jj(V:be E.N G x (Q rB b)):cu E O G ⟨dst,.unOp .not xt x,ty,pos,after,g⟩ (Q rB (!b)):=
 .of_pure fun a w S _ _ hf=>by
  have I:a.eval x= .bool b:=kY.1 (V S a hf);exact⟨.bool (!b),by simp [execOp,I,Op.unary],kY.2 rfl⟩
def ya{st dt:TypeId}{d:TypeDesc}(hs:E.P.underlying st=some d)(hd:E.P.underlying dt=some (.int k'))(V:be E.N G x (Q (rI k) m)):
  cu E O G ⟨dst,.convert st dt x,ty,pos,after,g⟩ (Q (rI k') (k'.wrap m)):=
 .of_pure fun a w S _ _ hf=>by
  have I:a.eval x= .int k m:=d7.1 (V S a hf);refine⟨.int k' (k'.wrap m),?_,d7.2 rfl⟩;simp only [execOp,I,convert,Ak,oS hs,oS hd,B8];cases d<;>simp [Conv.intToInt]
end
def AB{P:Program}{t:TypeId}(J:P.underlying t=some .bool)(d:Nat)(b c:Bool)(w:World):(Op.equalIn (d+1) t (.bool b) (.bool c)).run P w= .ok (b==c) w:=by
 simp [Op.equalIn,oS J]
def Bh{P:Program}{t:TypeId}{x y:Value}(H: ∀d,(Op.equalIn (d+1) t x y).run P w= .ok b w):(Op.equal t x y).run P w= .ok b w:=H 9999
section
def V2{c:Bool}(J:E.P.underlying xt=some .bool)(V:be E.N G x (Q rB b))(hy:be E.N G y (Q rB c)):cu E O G ⟨dst,.binOp .eql xt x y yt,ty,pos,after,g⟩ (Q rB (b==c)):=
 .of_pure fun a w S _ _ hf=>by
  have I:a.eval x= .bool b:=kY.1 (V S a hf);have M:a.eval y= .bool c:=kY.1 (hy S a hf);exact⟨.bool (b==c),by simp [execOp,I,M,eqGuard,binOp,Bh (fun d=>AB J d b c w)],kY.2 rfl⟩
def V0{c:Bool}(J:E.P.underlying xt=some .bool)(V:be E.N G x (Q rB b))(hy:be E.N G y (Q rB c)):cu E O G ⟨dst,.binOp .neq xt x y yt,ty,pos,after,g⟩ (Q rB (b !=c)):=
 .of_pure fun a w S _ _ hf=>by
  have I:a.eval x= .bool b:=kY.1 (V S a hf);have M:a.eval y= .bool c:=kY.1 (hy S a hf);exact⟨.bool (b !=c),by simp [execOp,I,M,eqGuard,binOp,Bh (fun d=>AB J d b c w)];cases b<;>cases c<;>rfl,kY.2 rfl⟩
def UD{op:BinOp}{u:Fy}(V:be E.N G x (Q rS s))(hy:be E.N G y (Q rS u))(hv: ∀P w,(Op.stringOp op ⟨s.toArray⟩ ⟨u.toArray⟩).run P w= .ok (.bool b) w)(hg: ∀P w,(eqGuard op xt x y (.string ⟨s.toArray⟩) (.string ⟨u.toArray⟩)).run P w= .ok () w)(H: ∀P w,(binOp op xt (.string ⟨s.toArray⟩) (.string ⟨u.toArray⟩)).run P w=(Op.stringOp op ⟨s.toArray⟩ ⟨u.toArray⟩).run P w):
  cu E O G ⟨dst,.binOp op xt x y yt,ty,pos,after,g⟩ (Q rB b):=
 .of_pure fun a w S _ _ hf=>by
  have I:a.eval x= .string ⟨s.toArray⟩:=Cw.1 (V S a hf);have M:a.eval y= .string ⟨u.toArray⟩:=Cw.1 (hy S a hf);refine⟨.bool b,?_,kY.2 rfl⟩;simp [execOp,I,M,hg,H,hv]
def acs{u:Fy}(V:be E.N G x (Q rS s))(hy:be E.N G y (Q rS u)):cu E O G ⟨dst,.binOp .neq xt x y yt,ty,pos,after,g⟩ (Q rB (!(s==u))):=
 UD V hy (fun _ _=>by simp [Op.stringOp]) (fun _ _=>rfl) (fun _ _=>rfl)
def act{u:Fy}(V:be E.N G x (Q rS s))(hy:be E.N G y (Q rS u)):cu E O G ⟨dst,.binOp .lss xt x y yt,ty,pos,after,g⟩ (Q rB (Op.bytesLess s u)):=
 UD V hy (fun _ _=>by simp [Op.stringOp]) (fun _ _=>rfl) (fun _ _=>rfl)
def acv{u:Fy}(V:be E.N G x (Q rS s))(hy:be E.N G y (Q rS u)):cu E O G ⟨dst,.binOp .gtr xt x y yt,ty,pos,after,g⟩ (Q rB (!(Op.bytesLess s u||s==u))):=
 UD V hy (fun _ _=>by simp [Op.stringOp]) (fun _ _=>rfl) (fun _ _=>rfl)
end
end
def aah:TypeDesc->Bool
 | .struct _| .array _ _=>true
 |_=>false
structure TI(P:Program)(aj:TypeId)(sz bytes:Nat)(agg:Bool)(z:List Value):Prop where
 info:(P.info? aj).map (fun i=>(i.zero.map (·.cells.toList),i.size,i.bytes))=some (some z,sz,bytes)
 ag:(P.underlying aj).map aah=some agg
variable{aj:TypeId}{bytes:Nat}{z:List Value}
section
variable{P:Program}{sz:Nat}{agg:Bool}
def TI.get(h:TI P aj sz bytes agg z): ∃i zv,P.info? aj=some i/\i.size=sz/\i.bytes=bytes/\i.zero=some zv/\zv.cells=z.toArray:=by
 have:=h.info
 cases hi:P.info? aj with
 |none=>rw [hi]at this;simp at this
 |some i=>
  rw [hi]at this;simp only [Iq,FZ,Prod.mk.injEq,A9]at this;obtain⟨⟨zv,I,M⟩,h3,h4⟩:=this;exact⟨i,zv,rfl,h3,h4,I,by rw [<-M]⟩
def TI.sizeOf(h:TI P aj sz bytes agg z)(w:World):(Go.sizeOf aj).run P w= .ok sz w:=by
 obtain⟨i,zv,I,M,_⟩:=h.get;simp [Go.sizeOf,typeInfo,I,M]
def TI.isAgg(h:TI P aj sz bytes agg z)(w:World):(Go.isAgg aj).run P w= .ok agg w:=by
 have:=h.ag
 cases hi:P.underlying aj with
 |none=>rw [hi]at this;simp at this
 |some d=>
  rw [hi]at this;simp only [Iq,FZ]at this;simp only [Go.isAgg,Ak,oS hi,B8];rw [<-this];cases d<;>simp [aah]
def TI.zero(h:TI P aj sz bytes agg z)(w:World): ∃zv,(zeroValue aj).run P w= .ok zv w/\zv.cells=z.toArray:=by
 obtain⟨i,zv,I,_,_,h4,h5⟩:=h.get;exact⟨zv,by simp [zeroValue,typeInfo,I,h4],h5⟩
end
def nf(b off i:Nat):(⟨b,off,none⟩:Addr).add i=⟨b,off+i,none⟩:=by
 unfold Addr.add;split
 ·simp_all
 ·rfl
def G2{b:Nat}{c:Array Value}(h:w.heap[b]? =some (.cells c aj fr))(i:Nat):w.cell? ⟨b,i,none⟩=c[i]? :=by
 simp [World.cell?,h]
def Ht{P:Program}{b n:Nat}{c:Array Value}(h:w.heap[b]? =some (.cells c aj fr))(hcs:(c.toList.drop off).take n=cs)(hl:cs.length=n):
  (loadCells ⟨b,off,none⟩ n).run P w= .ok cs.toArray w:=by
 rw [<-hl];refine run_loadCells_list w ⟨b,off,none⟩ cs fun j v hv=>?_;rw [nf,G2 h];have hj:j<cs.length:=(qS.1 hv).1;rw [<-hcs,D1 (by omega),A7]at hv;simpa using hv
variable{U:TypeId}{rest:List Oper}
def oD{P:Program}{b:Nat}{c:Array Value}{sz:Nat}{agg:Bool}(ti:TI P U sz bytes agg z)(h:w.heap[b]? =some (.cells c aj fr)){r:Rp α}(hsz:r.sz=sz)(hag:r.agg=agg){x:α}(V:r.rc S ((c.toList.drop off).take r.sz) x):
  (loadVar U ⟨b,off,none⟩).run P w= .ok (r.val ((c.toList.drop off).take r.sz)) w:=by
 have hl:=r.len V;subst hsz;subst hag;simp only [loadVar,Ak,ti.isAgg,B8]
 cases ha:r.agg with
 |true=>simp [ti.sizeOf,Ht h rfl hl,Rp.val,ha]
 |false=>
  have I:=r.sc ha;have hcell:w.cell? ⟨b,off,none⟩=some (((c.toList.drop off).take r.sz).headD undef):=by
   rw [G2 h];rw [I]at hl ⊢
   cases hd:c.toList.drop off with
   |nil=>rw [hd]at hl;simp at hl
   |cons v rest=>
    have:(c.toList.drop off)[0]? =some v:=by rw [hd];rfl
    rw [A7]at this;simpa using this
  simp [hcell,Rp.val,ha]
variable{ats:Array TypeId}{q:Rp β}
section
variable{E:En}{ty:TypeId}
def gO{r:Rp α}{x:α}{p:Operand}{sz:Nat}{agg:Bool}(ti:TI E.P U sz bytes agg z)(hsz:r.sz=sz)(hag:r.agg=agg)(hp:be E.N G p (bH r x)):
  cu E O G ⟨dst,.load U p,ty,pos,after,g⟩ (Q r x):=
 .of_pure fun a w S hs _ hf=>by
  obtain⟨b,off,c,aj,fr,I,M,h3⟩:=hp S a hf;obtain⟨c',h4,h5⟩:=hs.part M (r.len h3);rw [<-h5]at h3;refine⟨r.val ((c'.toList.drop off).take r.sz),?_,_,rfl,h3⟩;simp [execOp,I,Instr.loadAt,Instr.sureAddr,oD ti h4 hsz hag h3]
def aeO(s:Fy):(ByteArray.mk s.toArray).size=s.length:=by simp [ByteArray.size]
def oH{r:Rp α}{t:TypeId}(J:E.P.underlying t=some (.slice e))(V:be E.N G x (Q (gM r) xs)):
  cu E O G ⟨dst,.call ⟨.builtin .len,#[x],#[t]⟩,ty,pos,after,g⟩ (Q (rI .i64) (xs.length:Int)):=
 .of_pure fun a w S _ _ hf=>by
  obtain⟨ad,cap,I,_⟩:=rC.1 (V S a hf);refine⟨.int .i64 xs.length,?_,d7.2 rfl⟩;simp [execOp,resolve,invoke,builtin,Builtin.len_,oS J,I,goInt]
def PV{t:TypeId}(J:E.P.underlying t=some .string)(V:be E.N G x (Q rS s)):
  cu E O G ⟨dst,.call ⟨.builtin .len,#[x],#[t]⟩,ty,pos,after,g⟩ (Q (rI .i64) (s.length:Int)):=
 .of_pure fun a w S _ _ hf=>by
  have I:a.eval x= .string ⟨s.toArray⟩:=Cw.1 (V S a hf);refine⟨.int .i64 s.length,?_,d7.2 rfl⟩;simp [execOp,resolve,invoke,builtin,Builtin.len_,oS J,I,goInt,aeO]
def cO{α:Type}(xs:List α)(i:Int):Option α:=if 0<=i then xs[i.toNat]? else none
def cG(xs:List α)(i:Nat):cO xs (i:Int)=xs[i]? :=by simp [cO]
def XZ{r:Rp α}{a:Option Addr}(h:RF r S a xs){x:α}(V:xs[i]? =some x):
  ∃b off c aj fr,a=some ⟨b,off,none⟩/\S b=some (.cells c aj fr)/\r.rc S ((c.toList.drop (off+i*r.sz)).take r.sz) x:=by
 rcases h with rfl|⟨b,off,c,aj,fr,e1,e2,e3⟩
 ·simp at V
 ·refine⟨b,off,c,aj,fr,e1,e2,?_⟩;have h:=Br e3 V;have hi:i<xs.length:=(qS.1 V).1;rw [Cm,DX,uf]at h;have:min r.sz (xs.length*r.sz-i*r.sz)=r.sz:=by
   rw [<-Nat.sub_mul];have:1*r.sz<=(xs.length-i)*r.sz:=FR _ (by omega);omega
  rw [this]at h;exact h
def bn{r:Rp α}{y:α}{ix:Operand}{t:TypeId}{k:IntKind}{i:Int}{sz:Nat}{agg:Bool}(J:E.P.underlying t=some (.slice e))(ti:TI E.P e sz bytes agg z)(hsz:r.sz=sz)(V:be E.N G x (Q (gM r) xs))(hi:be E.N G ix (Q (rI k) i))(hy:cO xs i=some y):
  cu E O G ⟨dst,.indexAddr t x ix,ty,pos,after,g⟩ (bH r y):=
 .of_pure fun a w S _ _ hf=>by
  obtain⟨ad,cap,I,_,_,M⟩:=rC.1 (V S a hf);have h3:a.eval ix= .int k i:=d7.1 (hi S a hf);have h0:0<=i:=by unfold cO at hy;split at hy;assumption;cases hy
  have hy' :xs[i.toNat]? =some y:=by unfold cO at hy;rw [bz h0]at hy;exact hy
  have hlt:i.toNat<xs.length:=(qS.1 hy').1;obtain⟨b,off,c,aj,fr,e1,e2,e3⟩:=XZ M hy';subst e1;refine⟨.pointer (some ⟨b,off+i.toNat*r.sz,none⟩),?_,b,_,c,aj,fr,rfl,e2,e3⟩;have hc:0<=i/\i<(xs.length:Int):=⟨h0,by omega⟩;simp [execOp,I,h3,Instr.indexAt,asIntOf,oS J,hc,ti.sizeOf,nf,hsz]
def ro{α β:Type}(r:Rp α)(off:Nat)(q:Rp β)(get:α->β):Prop:= ∀S cs x,r.rc S cs x->q.rc S ((cs.drop off).take q.sz) (get x)
def dv(P:Program)(aj:TypeId)(i:Nat):Option (Nat×Nat):=
 match P.underlying aj with
 |some (.struct fs)=>(fs[i]?).bind fun f=>(P.info? f.type).map fun q=>(f.offset,q.size)
 |_=>none
def Hu{P:Program}{sz:Nat}(h:dv P aj i=some (off,sz)): ∃fs f,P.underlying aj=some (.struct fs)/\fs[i]? =some f/\f.offset=off/\ ∀w,(sizeOf f.type).run P w= .ok sz w:=by
 unfold dv at h;split at h
 ·rename_i fs hu
  cases hf:fs[i]? with
  |none=>rw [hf]at h;simp at h
  |some f=>
   rw [hf]at h
   cases hq:P.info? f.type with
   |none=>simp [hq]at h
   |some q=>
    simp [hq]at h;exact⟨fs,f,hu,hf,h.1,fun w=>by simp [sizeOf,typeInfo,hq,h.2]⟩
 ·cases h
def nT{r:Rp α}{get:α->β}{x:α}{sz:Nat}{p:Operand}(hf:dv E.P aj i=some (off,sz))(h0:Nat.beq sz 0=false)(hq:ro r off q get)(hoff:Nat.ble (off+q.sz) r.sz=true)(hp:be E.N G p (bH r x)):cu E O G ⟨dst,.fieldAddr aj p i,ty,pos,after,g⟩ (bH q (get x)):=
 .of_pure fun a w S _ _ hF=>by
  obtain⟨b,o,c,U,fr,I,M,h3⟩:=hp S a hF;obtain⟨fs,f,e1,e2,e3,e4⟩:=Hu hf;have h0' :sz≠0:=fun e=>by subst e;simp at h0
  have hoff' :off+q.sz<=r.sz:=ve hoff;refine⟨.pointer (some ⟨b,o+off,none⟩),?_,b,_,c,U,fr,rfl,M,?_⟩
  ·simp [execOp,I,Instr.fieldAt,oS e1,e2,Instr.sureAddr,fieldPlace,e4,h0',e3,nf]
  ·have:=hq S _ x h3;rw [Cm,DX,uf,DY (by omega)]at this;exact this
def ak(P:Program)(f:FuncId):Bool:=
 match P.funcs[f]? with
 |some fn=> !(fn.name== "runtime.NumGoroutine")&&fn.body.isSome
 |none=>false
def gC{P:Program}(h:ak P f=true)(args:Array Value)(w:World):(callFunc f args).run P w= .ok (.enter f args) w:=by
 unfold ak at h
 cases hf:P.funcs[f]? with
 |none=>rw [hf]at h;cases h
 |some fn=>
  rw [hf]at h;simp only [iX,Hh]at h;have I:fn.name≠ "runtime.NumGoroutine" :=by simpa using h.1
  have M:fn.body≠none:=fun e=>by rw [e]at h;simp at h
  simp [callFunc,hf,I,M]
def lI(N:Fr)(G:pC):List Operand->List Ty->Prop
 |[],[]=>True
 |x::xs,t::ts=>be N G x t/\lI N G xs ts
 |_,_=>False
def lI.tys{N:Fr}(hF:du N S a G): ∀{xs:List Operand} {ts:List Ty},lI N G xs ts->B5 S ts (xs.map a.eval)
 |[],[],_=>trivial
 |_::_,_::_,⟨I,M⟩=>⟨I S a hF,lI.tys hF M⟩
def bG{xs:List Operand}(hc:ak E.P f=true)(hs:bZ E.P f ts t)(V:lI E.N G xs ts):
  cu E O G ⟨dst,.call ⟨.value (.func f),xs.toArray,ats⟩,ty,pos,after,g⟩ t:=fun a w S hS _ hF=>by
 have hr:(execOp a.eval ⟨dst,.call ⟨.value (.func f),xs.toArray,ats⟩,ty,pos,after,g⟩).run E.P w= .ok (.enter f (xs.map a.eval).toArray) w:=by
  simp [execOp,resolve,Act.eval,Deferred.ofValue,invoke,gC hc]
 refine⟨fun c h=>(by cases h),?_⟩;rw [hr];exact(hs w S _ hS (V.tys hF)).mono fun e w' ⟨v,S',he,I,M,h3⟩=>⟨v,he,v,S',rfl,I,M,h3⟩
end
def rk{o:Obj}(h:k<w.heap.size):(w.alloc o).heap[k]? =w.heap[k]? :=RowKit.Below.heap_alloc w o k h
def SH.set(S:SH)(b:Nat)(o:Obj):SH:=fun k=>if k=b then some o else S k
def sU(S:SH)(b:Nat)(o:Obj):S.set b o b=some o:=bz rfl
def wC(S:SH){b:Nat}(o:Obj)(h:k≠b):S.set b o k=S k:=aR h
def Id{b:Nat}{o:Obj}(h: ∀q,S b=some q->Sb q o):SH.le S (S.set b o):=fun k q hq=>by
 by_cases hk:k=b
 ·subst hk;exact⟨o,sU _ _ _,h q hq⟩
 ·exact⟨q,by rw [wC _ _ hk];exact hq,yX q⟩
def nC.set(h:nC w S){b:Nat}{o:Obj}(I:w.heap[b]? =some o')(M:Sb o o')(h3: ∀q,S b=some q->Sb q o):nC w (S.set b o):=by
 refine⟨fun k q hq=>?_,fun p hp=>?_,fun w' hw' =>h.tb w' fun k q hq=>?_⟩
 ·by_cases hk:k=b
  ·subst hk;rw [sU]at hq;cases hq;exact⟨o',I,M⟩
  ·rw [wC _ _ hk]at hq;exact h k q hq
 ·obtain⟨c,aj,fr,g1,g2⟩:=h.gl p hp;by_cases hk:p.1=b
  ·subst hk;obtain⟨d,hd⟩:=h3 _ g1;refine⟨_,aj,fr,by rw [sU,hd],?_⟩;rw [List.toList_toArray,D2 ?_]
   ·exact g2
   ·have:=congrArg List.length g2;rw [At]at this;omega
  ·exact⟨c,aj,fr,by rw [wC _ _ hk];exact g1,g2⟩
 ·by_cases hk:k=b
  ·subst hk;obtain⟨o1,g1,g2⟩:=hw' k o (sU _ _ _);exact⟨o1,g1,Ot (h3 q hq) g2⟩
  ·exact hw' k q (by rw [wC _ _ hk];exact hq)
def jy(o:Obj)(hs:nC w S):kh vz w S (w.alloc o) S/\nC (w.alloc o) S/\S w.heap.size=none:=by
 refine⟨⟨rfl,rfl,rfl,kG _,by simp,fun k hk _=>rk hk,SH.le_refl _,fun _ _ _=>rfl⟩,hs.same fun b q H=>rk (hs.lt H),?_⟩
 cases h:S w.heap.size with
 |none=>rfl
 |some q=>have:=hs.lt h;omega
def vS(o:Obj)(hs:nC w S):kh vz w S (w.alloc o) (S.set w.heap.size o)/\nC (w.alloc o) (S.set w.heap.size o):=by
 obtain⟨I,M,h3⟩:=jy o hs;refine⟨⟨rfl,rfl,rfl,kG _,by simp,fun k hk _=>rk hk,Id fun q hq=>(by rw [h3]at hq;cases hq),fun k hk _=>wC _ _ (by omega)⟩,M.set (Ck w o) (yX o) fun q hq=>by rw [h3]at hq;cases hq⟩
def TG(hs:nC w S):kh vz w S w.drew S/\nC w.drew S:=⟨⟨rfl,rfl,rfl,Nat.le_succ _,kG _,fun _ _ _=>rfl,SH.le_refl _,fun _ _ _=>rfl⟩,hs.same fun _ _ _=>rfl⟩
def aY(l:Option Nat)(cap n:Nat):Value:=
 match l with
 |none=> .slice none 0 0
 |some b=> .slice (some ⟨b,0,none⟩) n cap
def EQ(w:World)(aj:TypeId)(sz:Nat)(l:Option Nat)(cap n:Nat)(cells:List Value):Prop:=
 match l with
 |none=>n=0/\cells=[]
 |some b=> ∃cur,w.heap[b]? =some (.cells cur aj (0,0))/\n<=cap/\cap<=maxLen/\cur.size=cap*sz/\cur.toList.take (n*sz)=cells
def H9{α:Type}(m:Bool)(r:Rp α)(aj:TypeId)(l:Option Nat)(cap:Nat)(xs:List α)(w:World)(S:SH):Prop:=
 ∃cells,EQ w aj r.sz l cap xs.length cells/\xX r S cells xs/\ ∀b,l=some b->S b=if m then some (.cells cells.toArray aj (0,0))else none
def EQ.lt{sz b n:Nat}(h:EQ w aj sz (some b) cap n cells):b<w.heap.size:=by
 obtain⟨cur,I,_⟩:=h;exact(Ba.1 I).1
def EQ.ext{sz n:Nat}(h:EQ w aj sz l cap n cells)(k: ∀b,l=some b->w'.heap[b]? =w.heap[b]?):EQ w' aj sz l cap n cells:=by
 cases l with
 |none=>exact h
 |some b=>
  obtain⟨cur,I,M⟩:=h;exact⟨cur,by rw [k b rfl];exact I,M⟩
def pw{α:Type}(m:Bool)(r:Rp α)(aj:TypeId)(l:Option Nat)(cap:Nat)(xs:List α):OE where
 fp:=fun k=>l=some k
 p:=H9 m r aj l cap xs
 here:=by
  intro w S h k hk;subst hk;obtain⟨cells,I,_⟩:=h;exact I.lt
 kept:=by
  intro C w w' S S' h k hC;obtain⟨cells,I,M,h3⟩:=h;refine⟨cells,I.ext fun b H=>?_,yV k.keep M,fun b H=>?_⟩
  ·subst H;exact k.heap b I.lt (hC b rfl)
  ·subst H;rw [k.old b I.lt (hC b rfl)];exact h3 b rfl
abbrev eV{α:Type}(r:Rp α)(aj:TypeId)(l:Option Nat)(cap:Nat)(xs:List α):OE:=pw false r aj l cap xs
abbrev gh{α:Type}(r:Rp α)(aj:TypeId)(l:Option Nat)(cap:Nat)(xs:List α):OE:=pw true r aj l cap xs
def app{α:Type}(xs ys:List α):Option (List α):=if xs.length+ys.length<=68719476736 then some (xs++ys)else none
variable{zs:List α}
def abz(h:app xs ys=some zs):zs=xs++ys/\xs.length+ys.length<=68719476736:=by
 unfold app at h;split at h
 ·exact⟨by simpa using h.symm,by assumption⟩
 ·cases h
variable{news:List Value}
def D7{P:Program}{t tx ty:TypeId}{i:TypeInfo}(J:P.underlying t=some (.slice e))(hi:P.info? e=some i){g sLen sCap:Nat}{cur:Array Value}(hg:w.heap[g]? =some (.cells cur e (0,0))){x:Value}{n:Nat}(hs:Src P i.size tx x n news w)(hroom:sLen+n<=sCap)(hfit:sLen*i.size+news.length<=cur.size):
  (Builtin.append_ #[t,tx] ty #[.slice (some ⟨g,0,none⟩) sLen sCap,x]).run P w=
   .ok (.slice (some ⟨g,0,none⟩) (sLen+n) sCap) (w.setRow g (cur.toList.take (sLen*i.size)++news++cur.toList.drop (sLen*i.size+news.length)).toArray):=by
 have hst:=run_storeCells_at P g (sLen*i.size) e news 0 cur w hg (by simpa using hfit) hs.one;simp only [vY]at hst;rcases hs.kind with⟨e',hk⟩|hk<;>simp [Builtin.append_,oS J,oS hk,sizeOf,typeInfo,hi,hs.len,hroom,hs.cells,Addr.add_lit,hst]
structure afY(l:Option Nat)(w w' :World):Prop where
 os:w'.os=w.os
 tape:w'.tape=w.tape
 output:w'.output=w.output
 drawn:w.drawn<=w'.drawn
 size:w.heap.size<=w'.heap.size
 heap: ∀k,k<w.heap.size->l≠some k->w'.heap[k]? =w.heap[k]?
variable{t' :TypeId}
def Lh{P:Program}{t ty:TypeId}{sz:Nat}{agg:Bool}{n m:Nat}{x:Value}(ti:TI P aj sz bytes agg z)(hz:Nat.beq z.length sz=true)(h0:Nat.blt 0 sz=true)(h128:Nat.ble bytes 2048=true)(J:P.underlying t=some (.slice aj))(h:EQ w aj sz l cap n cells)(hs:Src P sz t' x m news w)(hlen:n+m<=68719476736):
  ∃l' cap' w',(Builtin.append_ #[t,t'] ty #[aY l cap n,x]).run P w= .ok (aY l' cap' (n+m)) w' /\EQ w' aj sz l' cap' (n+m) (cells++news)/\afY l w w' /\(∀b,l' =some b->l=some b\/w.heap.size<=b)/\(∀b,l=some b->l' ≠some b->w'.heap[b]? =w.heap[b]?):=by
 obtain⟨i,zv,hi,I,M,h3,h4⟩:=ti.get;have h128' :=ve h128;have h0' :0<sz:=by simpa [Aq] using h0
 have hz2:z.length=sz:=zp hz;subst I;have hnl:=hs.newsLen;have hbytes:(n+m)*i.bytes<=140737488355328:=wP (NP hlen (by omega:i.bytes<=2048)) (by omega);by_cases hm:m=0
 ·subst hm;have hn0:news=[]:=Ao (by simpa using hnl);subst hn0;refine⟨l,cap,w,?_,by simpa using h,⟨rfl,rfl,rfl,kG _,kG _,fun _ _ _=>rfl⟩,fun b H=> .inl H,fun b _ _=>rfl⟩
  cases l with
  |none=>
   obtain⟨rfl,_⟩:=h;exact run_append_nothing w t t' ty aj i J hi none 0 0 (kG _) _ hs
  |some b=>
   obtain⟨cur,_,hle,_⟩:=h;exact run_append_nothing w t t' ty aj i J hi (some ⟨b,0,none⟩) n cap hle _ hs
 have fits: ∀old,old<n+m->Builtin.nextslicecap (n+m) old*i.bytes<=281474976710656:=fun old ho=>growslice_fits ho hbytes;have fresh: ∀(base:Option Addr) (olds:List Value),aY l cap n= .slice base n cap->olds=cells->cap<n+m->(Builtin.firstCells i.size n (.slice base n cap)).run P w.drew= .ok olds.toArray w.drew->cells.length=n*i.size->
   ∃l' cap' w',(Builtin.append_ #[t,t'] ty #[aY l cap n,x]).run P w= .ok (aY l' cap' (n+m)) w' /\EQ w' aj i.size l' cap' (n+m) (cells++news)/\afY l w w' /\(∀b,l' =some b->l=some b\/w.heap.size<=b)/\(∀b,l=some b->l' ≠some b->w'.heap[b]? =w.heap[b]?):=by
  intro base olds hv he hg hf hcl;subst he;have hr:=run_append_grow_src (P:=P) w t t' ty aj i zv J hi h3 base n cap olds hf x m news hs hg (by omega) (fits cap hg);have hge:=grownCap_ge w (n+m) cap aj;rw [<-hv]at hr;refine⟨some w.heap.size,grownCap w (n+m) cap aj,_,hr,⟨_,Ck w.drew _,hge,grownCap_le_maxLen _ _ _ _ (by simp only [maxLen];omega),?_,?_⟩,⟨rfl,rfl,rfl,Nat.le_succ _,by simp,fun k hk _=>?_⟩,fun b H=> .inr (FU (vc H)),fun b H _=>?_⟩
  ·have:(Builtin.zeroCells zv.cells (grownCap w (n+m) cap aj-(n+m))).size=(grownCap w (n+m) cap aj-(n+m))*i.size:=by
    rw [size_zeroCells,h4];simp [hz2]
   simp only [Array.size_append,NT,lj,hcl,hnl,this];rw [<-vg,<-vg];congr 1;omega
  ·have hl2:(olds++news).length=(n+m)*i.size:=by rw [lj,hcl,hnl,vg]
   rw [Array.toList_append,D2 (by simp only [List.toList_toArray];omega)];simp only [List.toList_toArray];exact rO (by omega)
  ·exact rk (w:=w.drew) hk
  ·cases l with
   |none=>cases H
   |some b0=>
    have hb' :b0=b:=vc H;subst hb';exact rk (w:=w.drew) (EQ.lt h)
 cases l with
 |none=>
  obtain⟨rfl,rfl⟩:=h;have:=run_append_grow_src (P:=P) w t t' ty aj i zv J hi h3 none 0 0 [] (run_firstCells_none w.drew i.size 0 0 0) x m news hs (by omega) (by omega) (fits 0 (by omega));have hge:=grownCap_ge w (0+m) 0 aj;refine⟨some w.heap.size,grownCap w (0+m) 0 aj,_,this,⟨_,Ck w.drew _,hge,grownCap_le_maxLen _ _ _ _ (by simp only [maxLen];omega),?_,?_⟩,⟨rfl,rfl,rfl,Nat.le_succ _,by simp,fun k hk _=>?_⟩,fun b H=> .inr (FU (vc H)),fun b H=>(by cases H)⟩
  ·have:(Builtin.zeroCells zv.cells (grownCap w (0+m) 0 aj-(0+m))).size=(grownCap w (0+m) 0 aj-(0+m))*i.size:=by
    rw [size_zeroCells,h4];simp [hz2]
   simp only [Array.size_append,NT,kW,hnl,this];rw [<-vg];congr 1;omega
  ·rw [Array.toList_append,D2 (by simp [hnl])];simp only [kW,u9];exact rO (by omega)
  ·exact rk (w:=w.drew) hk
 |some b=>
  obtain⟨cur,H,hle,hmax,hcs,hct⟩:=h;have hcl:cells.length=n*i.size:=by
   rw [<-hct,At,Iv,hcs];exact DY (FR _ hle)
  by_cases hroom:n+m<=cap
  ·have hfit:n*i.size+news.length<=cur.size:=by rw [hnl,hcs,<-vg];exact FR _ hroom
   have hr:=D7 (t:=t) (tx:=t') (ty:=ty) J hi H hs hroom hfit;refine⟨some b,cap,_,hr,⟨_,setRow_heap w b cur _ aj _ H,hroom,hmax,?_,?_⟩,⟨rfl,rfl,rfl,kG _,by simp [World.setRow],fun k hk hkb=>setRow_other w b k _ (fun e=>hkb (by rw [e]))⟩,fun b' hb' => .inl hb',fun b' hb' hne=>absurd hb' hne⟩
   ·simp only [NT,lj,At,Em,Iv];omega
   ·rw [hct,vg,<-hnl,<-hcl,show cells.length+news.length=(cells++news).length from by simp];exact NO
  ·refine fresh (some ⟨b,0,none⟩) cells rfl rfl (by omega) (run_firstCells_some w.drew i.size n ⟨b,0,none⟩ n cap cells hcl fun j v hv=>?_) hcl;have hj:j<cells.length:=(qS.1 hv).1;have hcell:w.cell? ⟨b,j,none⟩=cur[j]? :=G2 H j;rw [nf];show w.cell? ⟨b,0+j,none⟩=_;rw [u9,hcell];rw [<-hct,D1 (by omega)]at hv;simpa using hv
def Cy{P:Program}{r:Rp α}{e' :TypeId}(J:P.underlying t' =some (.slice e'))(hs:nC w S)(hv:(Q (gM r) ys).p S v): ∃news,Src P r.sz t' v ys.length news w/\xX r S news ys:=by
 obtain⟨ad,c2,rfl,hcap,hmax,hsl⟩:=rC.1 hv;rcases hsl with rfl|⟨b,off,c,U,fr,e1,e2,e3⟩
 ·refine⟨[],?_,rfl⟩
  cases ad with
  |none=>exact .ofNil w J c2
  |some a=>exact .ofSlice w J a 0 c2 [] (by simp) (fun j u hu=>by simp at hu) (fun u hu=>by cases hu)
 ·subst e1;obtain⟨c',h4,h5⟩:=hs.part e2 (s7 e3);refine⟨_,.ofSlice w J ⟨b,off,none⟩ ys.length c2 _ (s7 e3) (fun j u hu=>?_) (JO e3),e3⟩;rw [nf,G2 h4];rw [<-h5]at hu;have hj:j<ys.length*r.sz:=by
   have:=(qS.1 hu).1;simp at this;omega
  rw [D1 hj,A7]at hu;simpa using hu
variable{mm:Bool}
def CD{P:Program}{r:Rp α}{t ty:TypeId}{sz:Nat}{agg:Bool}{base:Nat}{B:Nat->Prop}(ti:TI P aj sz bytes agg z)(hsz:r.sz=sz)(hz:Nat.beq z.length sz=true)(h0:Nat.blt 0 sz=true)(h128:Nat.ble bytes 2048=true)(J:P.underlying t=some (.slice aj))(hs:nC w S)(h:(pw mm r aj l cap xs).holds base B w S)(H:base<=w.heap.size)(hsrc:Src P r.sz t' v ys.length news w)(hrc:xX r S news ys)(hz' :app xs ys=some zs):
  ∃l' cap' w' S',(Builtin.append_ #[t,t'] ty #[aY l cap xs.length,v]).run P w= .ok (aY l' cap' zs.length) w' /\kh (fun k=>l=some k) w S w' S' /\nC w' S' /\(pw mm r aj l' cap' zs).holds base B w' S' /\(∀b,l' =some b->l=some b\/w.heap.size<=b):=by
 subst hsz;obtain⟨rfl,hlen⟩:=abz hz';obtain⟨⟨cells,I,M,h3⟩,hbase⟩:=h;obtain⟨l',cap',w',hr,hraw,hg,hnew,hold⟩:=Lh (ty:=ty) ti hz h0 h128 J I hsrc hlen;have hrc' :xX r S (cells++news) (xs++ys):=Bs M hrc;have hsat0: ∀k o,S k=some o-> ∃o',w'.heap[k]? =some o' /\Sb o o' :=fun k o hk=>by
  have hlt:=hs.lt hk;by_cases hkl:l=some k
  ·obtain⟨o',e1,e2⟩:=hs k o hk;by_cases hkl' :l' =some k
   ·subst hkl';subst hkl;have h3' :=h3 k rfl
    cases mm with
    |false=>rw [h3']at hk;cases hk
    |true=>
     rw [h3']at hk;cases hk;obtain⟨cur',g1,g2,g3,g4,g5⟩:=hraw;refine⟨_,g1,?_⟩;refine⟨news++cur'.toList.drop ((xs.length+ys.length)*r.sz),?_⟩;congr 1;apply Array.ext';rw [<-mj,<-g5,A8]
   ·rw [hold k hkl hkl'];exact hs k o hk
  ·rw [hg.heap k hlt hkl];exact hs k o hk
 have hsat:nC w' S:=⟨hsat0,hs.gl,hs.tb⟩;have hSn: ∀b,l' =some b->l≠some b->S b=none:=fun b hb' hne=>by
  cases hq:S b with
  |none=>rfl
  |some q=>
   have:=hs.lt hq;rcases hnew b hb' with h|h
   ·exact absurd h hne
   ·omega
 have hbase' : ∀k,l' =some k->base<=k\/B k:=fun k hk=>by
  rcases hnew k hk with h|h
  ·exact hbase k h
  ·exact .inl (by omega)
 have hz2:(xs++ys).length=xs.length+ys.length:=lj
 cases mm with
 |false=>
  refine⟨l',cap',w',S,by rw [hz2];exact hr,⟨hg.os,hg.tape,hg.output,hg.drawn,hg.size,fun k hk hkb=>hg.heap k hk hkb,SH.le_refl _,fun _ _ _=>rfl⟩,hsat,⟨⟨cells++news,by rw [hz2];exact hraw,hrc',fun b hb' =>?_⟩,hbase'⟩,hnew⟩;by_cases hlb:l=some b
  ·exact h3 b hlb
  ·exact hSn b hb' hlb
 |true=>
  cases l' with
  |none=>
   refine⟨none,cap',w',S,by rw [hz2];exact hr,⟨hg.os,hg.tape,hg.output,hg.drawn,hg.size,fun k hk hkb=>hg.heap k hk hkb,SH.le_refl _,fun _ _ _=>rfl⟩,hsat,⟨⟨cells++news,by rw [hz2];exact hraw,hrc',fun b hb' =>(by cases hb')⟩,hbase'⟩,hnew⟩
  |some g=>
   have hq3: ∀q,S g=some q->Sb q (.cells (cells++news).toArray aj (0,0)):=fun q hq=>by
    by_cases hlb:l=some g
    ·have h4:S g=some (.cells cells.toArray aj (0,0)):=h3 g hlb;rw [h4]at hq;cases hq;exact⟨news,by simp⟩
    ·rw [hSn g rfl hlb]at hq;cases hq
   have hle:SH.le S (S.set g (.cells (cells++news).toArray aj (0,0))):=Id hq3;obtain⟨cur',g1,g2,g3,g4,g5⟩:=hraw;refine⟨some g,cap',w',S.set g (.cells (cells++news).toArray aj (0,0)),by rw [hz2];exact hr,⟨hg.os,hg.tape,hg.output,hg.drawn,hg.size,fun k hk hkb=>hg.heap k hk hkb,hle,fun k hk hkb=>wC _ _ ?_⟩,hsat.set g1 ?_ hq3,⟨⟨cells++news,by rw [hz2];exact⟨cur',g1,g2,g3,g4,g5⟩,yV hle hrc',fun b hb' =>?_⟩,hbase'⟩,hnew⟩
   ·rintro rfl;rcases hnew k rfl with h|h
    ·exact hkb h
    ·omega
   ·refine⟨cur'.toList.drop ((xs.length+ys.length)*r.sz),?_⟩;congr 1;apply Array.ext';rw [<-g5,A8]
   ·have hb2:g=b:=vc hb';subst hb2;exact sU _ _ _
def Vp{e f:OE}(h:e.apart f):f.apart e:=fun b H he=>h b he H
def dW.swap{base:Nat}{B:Nat->Prop}{e f:OE}(h:dW base B w S (e::f::O)):dW base B w S (f::e::O):=by
 obtain⟨I,M,h3,h4,h5⟩:=h;refine⟨h3,?_,I,?_,h5⟩
 ·intro g hg;rcases iW.1 hg with rfl|hg
  ·exact Vp (M _ (md ..))
  ·exact h4 g hg
 ·intro g hg;exact M g (ma _ hg)
def xm{base:Nat}{B:Nat->Prop}{e:OE}{O' :List OE}(h:dW base B w S (e::O))(k:dW base B w S O->dW base B w S O')(hm: ∀f∈O',f∈O):dW base B w S (e::O'):=
 ⟨h.1,fun f hf=>h.2.1 f (hm f hf),k h.2.2⟩
def zm{base:Nat}{B:Nat->Prop}{a b c:OE}(h:dW base B w S (a::b::c::O)):dW base B w S (c::a::b::O):=
 (xm h dW.swap (fun f hf=>by simp only [iW]at hf ⊢;rcases hf with h|h|h<;>simp [h])).swap
def zl{base:Nat}{B:Nat->Prop}{a b c d:OE}(h:dW base B w S (a::b::c::d::O)):dW base B w S (d::a::b::c::O):=
 (xm h zm (fun f hf=>by simp only [iW]at hf ⊢;rcases hf with h|h|h|h<;>simp [h])).swap
def zk{base:Nat}{B:Nat->Prop}{a b c d e:OE}(h:dW base B w S (a::b::c::d::e::O)):dW base B w S (e::a::b::c::d::O):=
 (xm h zl (fun f hf=>by simp only [iW]at hf ⊢;rcases hf with h|h|h|h|h<;>simp [h])).swap
section
variable{E:En}
def St.own_map{O' :List OE}(h:St E O G a w S)(k:dW E.base E.B w S O->dW E.base E.B w S O'):St E O' G a w S:=⟨h.ext,h.sat,k h.own,h.facts⟩
def St.base_le(h:St E O G a w S):E.base<=w.heap.size:=h.ext.size
def St.drop{e:OE}(h:St E (e::O) G a w S):St E O G a w S:=h.own_map fun h=>h.2.2
def St.fresh(mm:Bool)(r:Rp α)(aj:TypeId)(h:St E O G a w S):St E (pw mm r aj none 0 []::O) G a w S:=
 h.own_map fun h=>by refine⟨⟨⟨[],⟨rfl,rfl⟩,rfl,fun b H=>(by cases H)⟩,fun k hk=>?_⟩,fun f _ b H=>?_,h⟩<;>(first|cases hk|cases H)
def Bg{e:OE}{b:Nat}{o:Obj}(h:St E (e::O) G a w S)(H:e.fp b)(ho:w.heap[b]? =some o')(hoo:Sb o o')(hn:S b=none):St E O G a w (S.set b o)/\SH.le S (S.set b o)/\kh (fun k=>k=b) w S w (S.set b o)/\nC w (S.set b o):=by
 have hbase:=h.own.1.2 b H;have hle:SH.le S (S.set b o):=Id fun q hq=>(by rw [hn]at hq;cases hq);have hsat:nC w (S.set b o):=h.sat.set ho hoo fun q hq=>by rw [hn]at hq;cases hq
 have hext:kh (fun k=>k=b) w S w (S.set b o):=⟨rfl,rfl,rfl,kG _,kG _,fun _ _ _=>rfl,hle,fun k _ hk=>wC _ _ hk⟩;refine⟨⟨h.ext.step hext fun c hc=>by subst hc;exact hbase,hsat,h.own.2.2.ext hext fun f hf c hc hm=>?_,h.facts.mono hle⟩,hle,hext,hsat⟩;subst hm;exact h.own.2.1 f hf c H hc
def tO{α:Type}(r:Rp α)(l:Option Nat)(cap:Nat)(xs:List α):Ty where
 p:=fun S v=>v=aY l cap xs.length/\(Q (gM r) xs).p S v
 mono:=fun h ⟨I,M⟩=>⟨I,Ty.mono _ h M⟩
def Cx{N:Fr}{G:pC}{r:Rp α}(h:be N G x (tO r l cap xs)):be N G x (tV (aY l cap xs.length)):=fun S a hf=>(h S a hf).1
def kX{N:Fr}{G:pC}{r:Rp α}(h:be N G x (tO r l cap xs)):be N G x (Q (gM r) xs):=fun S a hf=>(h S a hf).2
def vn{r:Rp α}{w:World}{S:SH}(h:H9 true r aj l cap xs w S):(Q (gM r) xs).p S (aY l cap xs.length):=by
 obtain⟨cells,I,M,h3⟩:=h
 cases l with
 |none=>
  have V:xs=[]:=Ao I.1;subst V;exact VM
 |some b=>
  obtain⟨cur,g1,g2,g3,g4,g5⟩:=I;refine rC.2 ⟨_,cap,rfl,g2,g3,.inr ⟨b,0,cells.toArray,aj,(0,0),rfl,h3 b rfl,?_⟩⟩;have:=s7 M;rw [xu,rO (by simp [this])];exact M
def St.freeze{r:Rp α}(h:St E (eV r aj l cap xs::O) G a w S):
  ∃S',St E (gh r aj l cap xs::O) G a w S' :=by
 obtain⟨⟨cells,I,M,h3⟩,hbase⟩:=h.own.1
 cases l with
 |none=>exact⟨S,h.ext,h.sat,⟨⟨⟨cells,I,M,fun b H=>(by cases H)⟩,hbase⟩,h.own.2⟩,h.facts⟩
 |some b=>
  obtain⟨cur,g1,g2,g3,g4,g5⟩:=I;have hoo:Sb (.cells cells.toArray aj (0,0)) (.cells cur aj (0,0)):=by
   refine⟨cur.toList.drop (xs.length*r.sz),?_⟩;congr 1;apply Array.ext';rw [<-g5,A8]
  obtain⟨h8,hle,_,_⟩:=Bg h rfl g1 hoo (h3 b rfl);refine⟨_,h8.ext,h8.sat,⟨⟨⟨cells,⟨cur,g1,g2,g3,g4,g5⟩,yV hle M,fun b' hb' =>?_⟩,hbase⟩,h.own.2.1,h8.own⟩,h8.facts⟩;have hb2:b=b' :=vc hb';subst hb2;exact sU _ _ _
def St.settle{r:Rp α}(h:St E (pw mm r aj l cap xs::O) G a w S):
  ∃S',St E O G a w S' /\(Q (gM r) xs).p S' (aY l cap xs.length):=by
 cases mm with
 |true=>exact⟨S,h.drop,vn h.own.1.1⟩
 |false=>
  obtain⟨S',I⟩:=h.freeze;exact⟨S',I.drop,vn I.own.1.1⟩
end
section
variable{E:En}{e:Exit}
def UW{N:Fr}(h:du N S a G)(hk:t.p S (a.tmps.getD k undef)):du N S a ((k,t)::G):=
 ⟨h.size,h.defers,fun j u hj=>by
  unfold cH at hj;by_cases H:Nat.beq k j=true
  ·rw [H]at hj;have:=zp H;subst this;rw [<-show t=u from by simpa using hj];exact hk
  ·rw [yE]at H;rw [H]at hj;exact h.at_ j u hj⟩
def St.cons(h:St E O G a w S)(hk:t.p S (a.tmps.getD k undef)):St E O ((k,t)::G) a w S:=⟨h.ext,h.sat,h.own,UW h.facts hk⟩
def St.tipAt{r:Rp α}{n:Nat}(h:St E (gh r aj l cap xs::O) G a w S)(hk:cH G k=some (tV (aY l cap n)))(hn:n=xs.length):
  St E (gh r aj l cap xs::O) ((k,tO r l cap xs)::G) a w S:=by
 subst hn;have hv:a.tmps.getD k undef=aY l cap xs.length:=h.facts.at_ k _ hk;exact h.cons ⟨hv,by rw [hv];exact vn h.own.1.1⟩
def bJ(mm:Bool)(r:Rp α)(aj:TypeId)(h:RG E ops tD rest (pw mm r aj none 0 []::O) G):RG E ops tD rest O G:=fun a w S st=>h a w S (st.fresh mm r aj)
def abP(mm:Bool)(r:Rp α)(aj:TypeId)(h:CG E tD c (pw mm r aj none 0 []::O) G):CG E tD c O G:=fun a w S st=>h a w S (st.fresh mm r aj)
def wK{f:OE}(h:RG E ops tD rest O G):RG E ops tD rest (f::O) G:=fun a w S st=>h a w S st.drop
def aO{f:OE}(h:AT E tD e O G):AT E tD e (f::O) G:=fun a w S st=>h a w S st.drop
def bo{x y:OE}(h:RG E ops tD rest (y::x::O) G):RG E ops tD rest (x::y::O) G:=fun a w S st=>h a w S (st.own_map dW.swap)
def bv{x y:OE}(h:AT E tD e (y::x::O) G):AT E tD e (x::y::O) G:=fun a w S st=>h a w S (st.own_map dW.swap)
def eF{x y z:OE}(h:RG E ops tD rest (z::x::y::O) G):RG E ops tD rest (x::y::z::O) G:=fun a w S st=>h a w S (st.own_map zm)
def aH{x y z:OE}(h:AT E tD e (z::x::y::O) G):AT E tD e (x::y::z::O) G:=fun a w S st=>h a w S (st.own_map zm)
def fj{x y z:OE}(h:RG E ops tD rest (u::x::y::z::O) G):RG E ops tD rest (x::y::z::u::O) G:=fun a w S st=>h a w S (st.own_map zl)
def cv{x y z:OE}(h:AT E tD e (u::x::y::z::O) G):AT E tD e (x::y::z::u::O) G:=fun a w S st=>h a w S (st.own_map zl)
def qd{x y z v:OE}(h:RG E ops tD rest (v::x::y::z::u::O) G):RG E ops tD rest (x::y::z::u::v::O) G:=fun a w S st=>h a w S (st.own_map zk)
def cU{x y z v:OE}(h:AT E tD e (v::x::y::z::u::O) G):AT E tD e (x::y::z::u::v::O) G:=fun a w S st=>h a w S (st.own_map zk)
def pI{f:OE}(h:LG E tD c O G):LG E tD c (f::O) G:=fun a w S st=>h a w S st.drop
def dm{x y:OE}(h:LG E tD c (y::x::O) G):LG E tD c (x::y::O) G:=fun a w S st=>h a w S (st.own_map dW.swap)
def gS{x y z:OE}(h:LG E tD c (z::x::y::O) G):LG E tD c (x::y::z::O) G:=fun a w S st=>h a w S (st.own_map zm)
def jL{x y z:OE}(h:LG E tD c (u::x::y::z::O) G):LG E tD c (x::y::z::u::O) G:=fun a w S st=>h a w S (st.own_map zl)
def mJ{x y z v:OE}(h:LG E tD c (v::x::y::z::u::O) G):LG E tD c (x::y::z::u::v::O) G:=fun a w S st=>h a w S (st.own_map zk)
def gk{r:Rp α}(h:RG E ops tD rest (gh r aj l cap xs::O) G):RG E ops tD rest (eV r aj l cap xs::O) G:=fun a w _ st=>let⟨S',st'⟩:=st.freeze;h a w S' st'
def gW{r:Rp α}{n:Nat}(k:Nat)(hk:cH G k=some (tV (aY l cap n)))(h:RG E ops tD rest (gh r aj l cap xs::O) ((k,tO r l cap xs)::G))(hn:n=xs.length:=by rfl):RG E ops tD rest (gh r aj l cap xs::O) G:=fun a w S st=>h a w S (st.tipAt hk hn)
def abO{r:Rp α}{n:Nat}(k:Nat)(hk:cH G k=some (tV (aY l cap n)))(h:CG E tD c (gh r aj l cap xs::O) ((k,tO r l cap xs)::G))(hn:n=xs.length:=by rfl):CG E tD c (gh r aj l cap xs::O) G:=fun a w S st=>h a w S (st.tipAt hk hn)
def mK{r:Rp α}(h:AT E tD e (gh r aj l cap xs::O) G):AT E tD e (eV r aj l cap xs::O) G:=fun a w _ st=>let⟨S',st'⟩:=st.freeze;h a w S' st'
def dn{r:Rp α}{n:Nat}(k:Nat)(hk:cH G k=some (tV (aY l cap n)))(h:AT E tD e (gh r aj l cap xs::O) ((k,tO r l cap xs)::G))(hn:n=xs.length:=by rfl):AT E tD e (gh r aj l cap xs::O) G:=fun a w S st=>h a w S (st.tipAt hk hn)
def YX{r:Rp α}(h:LG E tD c (gh r aj l cap xs::O) G):LG E tD c (eV r aj l cap xs::O) G:=fun a w _ st=>let⟨S',st'⟩:=st.freeze;h a w S' st'
def abI{r:Rp α}{n:Nat}(k:Nat)(hk:cH G k=some (tV (aY l cap n)))(h:LG E tD c (gh r aj l cap xs::O) ((k,tO r l cap xs)::G))(hn:n=xs.length:=by rfl):LG E tD c (gh r aj l cap xs::O) G:=fun a w S st=>h a w S (st.tipAt hk hn)
def bm{r:Rp α}(hk:cH G k=some (Q (gM r) xs))(h:xs.length<=maxLen->CG E tD c O G):CG E tD c O G:=fun a w S st=>by
 obtain⟨_,_,_,I,M,_⟩:=rC.1 (st.facts.at_ k _ hk);exact h (wP I M) a w S st
section
variable{ty:TypeId}
def St.append{r:Rp α}{t ty:TypeId}{sz:Nat}{agg:Bool}(ti:TI E.P aj sz bytes agg z)(hsz:r.sz=sz)(hz:Nat.beq z.length sz=true)(h0:Nat.blt 0 sz=true)(h128:Nat.ble bytes 2048=true)(J:E.P.underlying t=some (.slice aj))(st:St E (pw mm r aj l cap xs::O) G a w S)(hsrc:Src E.P r.sz t' v ys.length news w)(hrc:xX r S news ys)(happ:app xs ys=some zs):
  ∃l' cap' w' S',(Builtin.append_ #[t,t'] ty #[aY l cap xs.length,v]).run E.P w= .ok (aY l' cap' zs.length) w' /\St E (pw mm r aj l' cap' zs::O) G a w' S' :=by
 obtain⟨l',cap',w',S',hr,hext,hsat,hh,hnew⟩:=CD (ty:=ty) ti hsz hz h0 h128 J st.sat st.own.1 st.base_le hsrc hrc happ;refine⟨l',cap',w',S',hr,st.ext.step hext fun b H=>st.own.1.2 b H,hsat,⟨hh,fun f hf b H hfb=>?_,st.own.2.2.ext hext fun f hf b H hbl=>st.own.2.1 f hf b hbl H⟩,st.facts.mono hext.keep⟩;rcases hnew b H with h|h
 ·exact st.own.2.1 f hf b h hfb
 ·have:=f.here (dW.mem st.own.2.2 f hf).1 b hfb;omega
def St.put{d:Nat}(h:St E O G a w S)(hd:Nat.blt d E.N.n=true)(hv:t.p S v):St E O ((d,t)::G) (a.put (some d) v) w S:=⟨h.ext,h.sat,h.own,h.facts.put hd hv⟩
def FF{r:Rp α}{t:TypeId}{sz:Nat}{agg:Bool}{n:Nat}{u:Nat->Option Nat->Ty}(ti:TI E.P aj sz bytes agg z)(hsz:r.sz=sz)(hz:Nat.beq z.length sz=true)(h0:Nat.blt 0 sz=true)(h128:Nat.ble bytes 2048=true)(J:E.P.underlying t=some (.slice aj))(hd:Nat.blt d E.N.n=true)(V:be E.N G x (tV (aY l cap n)))(hy: ∀a w S,St E (pw mm r aj l cap xs::O) G a w S-> ∃news,Src E.P r.sz t' (a.eval y) ys.length news w/\xX r S news ys)(happ:app xs ys=some zs)(hu: ∀l' cap' w0 S,(pw mm r aj l' cap' zs).p w0 S->(u cap' l').p S (aY l' cap' zs.length))(k: ∀l' cap',RG E ops tD rest (pw mm r aj l' cap' zs::O) ((d,u cap' l')::G))(hn:n=xs.length):
  RG E ops tD (⟨some d,.call ⟨.builtin .append,#[x,y],#[t,t']⟩,ty,pos,after,none⟩::rest) (pw mm r aj l cap xs::O) G:= .of rfl fun a w S st=>by
 subst hn;have I:a.eval x=aY l cap xs.length:=V S a st.facts;obtain⟨news,M,h3⟩:=hy a w S st;obtain⟨l',cap',w',S',hr,st'⟩:=st.append (ty:=ty) ti hsz hz h0 h128 J M h3 happ;have hrun:(execOp a.eval ⟨some d,.call ⟨.builtin .append,#[x,y],#[t,t']⟩,ty,pos,after,none⟩).run E.P w= .ok (.value (aY l' cap' zs.length)) w' :=by
  simp [execOp,resolve,invoke,builtin,I,hr]
 refine⟨fun c h=>(by cases h),?_⟩;rw [hrun];exact k l' cap' _ _ S' (st'.put hd (hu l' cap' w' S' st'.own.1.1))
def cD{r:Rp α}{t:TypeId}{sz:Nat}{agg:Bool}{n:Nat}(ti:TI E.P aj sz bytes agg z)(hsz:r.sz=sz)(hz:Nat.beq z.length sz=true)(h0:Nat.blt 0 sz=true)(h128:Nat.ble bytes 2048=true)(J:E.P.underlying t=some (.slice aj))(ht' :t' =t)(hd:Nat.blt d E.N.n=true)(V:be E.N G x (tV (aY l cap n)))(hy:be E.N G y (Q (gM r) ys))(happ:app xs ys=some zs)(k: ∀l' cap',RG E ops tD rest (eV r aj l' cap' zs::O) ((d,tV (aY l' cap' zs.length))::G))(hn:n=xs.length:=by rfl):
  RG E ops tD (⟨some d,.call ⟨.builtin .append,#[x,y],#[t,t']⟩,ty,pos,after,none⟩::rest) (eV r aj l cap xs::O) G:=by
 subst ht';exact FF (u:=fun cap' l' =>tV (aY l' cap' zs.length)) ti hsz hz h0 h128 J hd V (fun a w S st=>Cy J st.sat (hy S a st.facts)) happ (fun _ _ _ _ _=>rfl) k hn
def nD{r:Rp α}{t:TypeId}{sz:Nat}{agg:Bool}(ti:TI E.P aj sz bytes agg z)(hsz:r.sz=sz)(hz:Nat.beq z.length sz=true)(h0:Nat.blt 0 sz=true)(h128:Nat.ble bytes 2048=true)(J:E.P.underlying t=some (.slice aj))(ht' :t' =t)(hd:Nat.blt d E.N.n=true)(V:be E.N G x (tO r l cap xs))(hy:be E.N G y (Q (gM r) ys))(happ:app xs ys=some zs)(k: ∀l' cap',RG E ops tD rest (gh r aj l' cap' zs::O) ((d,tO r l' cap' zs)::G)):
  RG E ops tD (⟨some d,.call ⟨.builtin .append,#[x,y],#[t,t']⟩,ty,pos,after,none⟩::rest) (gh r aj l cap xs::O) G:=by
 subst ht';exact FF (u:=fun cap' l' =>tO r l' cap' zs) ti hsz hz h0 h128 J hd (Cx V) (fun a w S st=>Cy J st.sat (hy S a st.facts)) happ (fun _ _ _ _ h=>⟨rfl,vn h⟩) k rfl
end
end
def GK(off:Nat): ∀(cs:List Value) (k:Nat) (pre mid post:List Value),mid.length=cs.length->pre.length=off+k->
  (cs.zipIdx k).foldl (fun(a:Array Value) x=>a.setIfInBounds (off+x.2) x.1) (pre++mid++post).toArray=(pre++cs++post).toArray
 |[],k,pre,mid,post,hm,_=>by
  have:mid=[]:=Ao hm;subst this;simp
 |c::cs,k,pre,mid,post,hm,hp=>by
  cases mid with
  |nil=>simp at hm
  |cons m mid=>
   simp only [List.zipIdx_cons,List.foldl_cons];have I:(pre++(m::mid)++post).toArray.setIfInBounds (off+k) c=((pre++[c])++mid++post).toArray:=by
    rw [<-hp];simp
   rw [I,GK off cs (k+1) (pre++[c]) mid post (by simpa using hm) (by simp;omega)];simp
def Gh(v:Value)(off:Nat)(pre mid post:List Value)(hm:mid.length=v.cells.size)(hp:pre.length=off):
  v.cells.zipIdx.foldl (fun cs (x:Value×Nat)=>cs.setIfInBounds (off+x.2) x.1) (pre++mid++post).toArray=(pre++v.cells.toList++post).toArray:=by
 have:=GK off v.cells.toList 0 pre mid post (by simpa using hm) (by simpa using hp);rw [<-this,<-Array.foldl_toList];simp [Array.toList_zipIdx]
def Av{r:Rp α}{x:α}(h:r.rc S cs x):(r.val cs).cells=cs.toArray:=by
 unfold Rp.val
 cases ha:r.agg with
 |true=>simp [Value.cells]
 |false=>
  have hl:=r.len h;rw [r.sc ha]at hl
  match cs,hl with
  |[c],_=>
   have:=r.one h c (by simp);cases c<;>simp_all [Value.cells,Value.oneCell']
def Jd:Nat->List Value->List (Nat×Value)
 |_,[]=>[]
 |k,v::vs=>(k,v)::Jd (k+1) vs
def Mi{α:Type}{r:Rp α}{S:SH}: ∀(ys:List α) (vs:List Value) (k:Nat) (pre zs:List Value),B5 S (ys.map (Q r)) vs->pre.length=k*r.sz->zs.length=ys.length*r.sz->
  ∃cs,xX r S cs ys/\Instr.fill (fun i=>some (i*r.sz,r.sz)) (pre++zs).toArray (Jd k vs)=some (pre++cs).toArray
 |[],[],k,pre,zs,_,_,hz=>by
  have:zs=[]:=Ao (by simpa using hz);subst this;exact⟨[],rfl,by simp [Jd,Instr.fill]⟩
 |y::ys,v::vs,k,pre,zs,⟨⟨c,e,hc⟩,M⟩,hp,hz=>by
  have hl:=r.len hc;have hz' :r.sz<=zs.length:=by rw [hz,jo,vg];omega
  have e1:zs=zs.take r.sz++zs.drop r.sz:=(A8 _ _).symm;have hcells:v.cells=c.toArray:=by rw [e];exact Av hc
  obtain⟨cs,h3,h4⟩:=Mi ys vs (k+1) (pre++c) (zs.drop r.sz) M (by rw [lj,hp,hl,vg];omega) (by rw [Em,hz,jo,vg];omega);refine⟨c++cs,⟨c,cs,rfl,hc,h3⟩,?_⟩;have hs:v.cells.size=r.sz:=by rw [hcells];simpa using hl
  have hcond: ¬((v.cells.size≠r.sz)\/(k*r.sz+v.cells.size>(pre++zs).toArray.size)):=by
   simp [hs];omega
  have h5:=Gh v (k*r.sz) pre (zs.take r.sz) (zs.drop r.sz) (by simp [hs];omega) hp;rw [mj,<-e1]at h5;simp only [Jd,Instr.fill];rw [aR (by simpa using hcond)];rw [h5,hcells];simpa using h4
def EM:Nat->List Operand->List (Nat×Operand)
 |_,[]=>[]
 |k,v::vs=>(k,v)::EM (k+1) vs
def HY(ρ:Operand->Value): ∀(k:Nat) (xs:List Operand),(EM k xs).map (fun x=>(x.1,ρ x.2))=Jd k (xs.map ρ)
 |_,[]=>rfl
 |k,x::xs=>by simp [EM,Jd,HY ρ (k+1) xs]
variable{parts:List (Nat×Operand)}
section
variable{E:En}{ty:TypeId}
def CC{P:Program}{r:Rp α}{xs:List Operand}{ρ:Operand->Value}{t:TypeId}{n sz:Nat}{agg:Bool}(J:P.underlying t=some (.slice aj))(ti:TI P aj sz bytes agg z)(hsz:r.sz=sz)(hn:n=ys.length)(H:Nat.ble (n*sz) 16777216=true)(V:B5 S (ys.map (Q r)) (xs.map ρ))(w:World):
  ∃cs,xX r S cs ys/\(Instr.buildSlice t n ((EM 0 xs).toArray.map fun x=>(x.1,ρ x.2))).run P w= .ok (.slice (some ⟨w.heap.size,0,none⟩) n n) (w.alloc (.cells cs.toArray aj (0,0))):=by
 subst hsz;have hb' :=ve H;obtain⟨zv,hzr,_⟩:=ti.zero w;obtain⟨cs,hc,hfill⟩:=Mi ys (xs.map ρ) 0 [] ((Array.range (n*r.sz)).map (fun i=>(if n*r.sz=0 then #[]else zv.cells)[i%(if n*r.sz=0 then #[]else zv.cells).size]!)).toList V (by simp) (by simp [hn]);refine⟨cs,hc,?_⟩;have hparts:((EM 0 xs).toArray.map fun x=>(x.1,ρ x.2)).toList=Jd 0 (xs.map ρ):=by simp [HY]
 simp only [kW,Array.toArray_toList]at hfill;have hle: ¬(n*r.sz>2^24):=by omega
 by_cases hn0:n*r.sz=0
 ·simp only [hn0,hM]at hfill;simp only [Instr.buildSlice,Ak,oS J,B8,ti.sizeOf,Sem.run_ite,hn0,hM,Sem.run_pure,hparts,hfill];simp [newRow]
 ·simp only [hn0,gT]at hfill;simp only [Instr.buildSlice,Ak,oS J,B8,ti.sizeOf,Sem.run_ite,hle,gT,hn0,Sem.run_pure,hzr,hparts,hfill];simp [newRow]
def aK{r:Rp α}{xs:List Operand}{t:TypeId}{n sz:Nat}{agg:Bool}(J:E.P.underlying t=some (.slice aj))(ti:TI E.P aj sz bytes agg z)(hsz:r.sz=sz)(h0:Nat.blt 0 sz=true)(hp:parts=EM 0 xs)(hn:n=ys.length)(H:Nat.ble (n*sz) 16777216=true)(V:lI E.N G xs (ys.map (Q r))):cu E O G ⟨dst,.buildSlice t n parts.toArray,ty,pos,after,g⟩ (Q (gM r) ys):=
 .of_run fun a w S hs _ hf=>by
  obtain⟨cs,hc,hr⟩:=CC J ti hsz hn H (V.tys hf) w;subst hsz;have hb' :=ve H;have h0' :0<r.sz:=by simpa [Aq] using h0
  have hnle:n<=n*r.sz:=Nat.le_mul_of_pos_right n h0';obtain⟨he,hs'⟩:=vS (w:=w) (.cells cs.toArray aj (0,0)) hs;have hcl:=s7 hc;refine⟨.slice (some ⟨w.heap.size,0,none⟩) n n,_,_,?_,he,hs',rC.2 ⟨_,n,by rw [hn],by omega,by simp only [maxLen];omega,.inr ⟨w.heap.size,0,cs.toArray,aj,(0,0),rfl,by simp [SH.set],?_⟩⟩⟩
  ·subst hp;simp only [execOp,Ak,hr,B8,Sem.run_pure]
  ·have:xX r (S.set w.heap.size (.cells cs.toArray aj (0,0))) cs ys:=yV he.keep hc;simpa [<-hcl] using this
def UG{r:Rp α}{v:α}(V:be E.N G x (Q r v)):cu E O G ⟨dst,.box aj x,ty,pos,after,g⟩ (bH r v):=
 .of_run fun a w S hs _ hf=>by
  obtain⟨cs,hv,hc⟩:=V S a hf;obtain⟨he,hs'⟩:=vS (w:=w) (.cells cs.toArray aj (0,0)) hs;refine⟨.pointer (some ⟨w.heap.size,0,none⟩),_,_,?_,he,hs',w.heap.size,0,cs.toArray,aj,(0,0),rfl,by simp [SH.set],?_⟩
  ·simp [execOp,Instr.box,newVar,newRow,hv,Av hc]
  ·have:=r.mono he.keep hc;have hl:=r.len hc;simpa [<-hl] using this
end
def pK(c:Bool)(t:Ty):Ty where
 p:=fun S v=>if c=true then t.p S v else v=undef
 mono:=fun h k=>by
  split
  ·rename_i hc;rw [bz hc]at k;exact t.mono h k
  ·rename_i hc;rw [aR hc]at k;exact k
variable{gs:Nat}{pol:Bool}
section
variable{E:En}
def db{N:Fr}{c:Bool}(h:cH G k=some (pK c t))(hc:c=true):be N G (.tmp k) t:=fun _ _ hF=>by
 have M:if c=true then t.p _ (Act.eval _ (.tmp k))else _=undef:=hF.at_ k _ h;rw [bz hc]at M;exact M
def zK(c b:Bool):Ty:=pK c (Q rB b)
def zJ(h:cH G k=some (Q rB b)):be E.N G (.tmp k) (zK true b):=fun _ _ hF=>by
 have M:(Q rB b).p _ (Act.eval _ (.tmp k)):=hF.at_ k _ h;simp only [zK,pK,hM];exact M
def DE{c:Bool}(h:cH G k=some (pK c (Q rB b))):be E.N G (.tmp k) (zK c b):=fun _ _ hF=>hF.at_ k _ h
def KC{c:Bool}(hg:o.guard=some (j,pol))(hj:(ops[j]?).bind (·.dst)=some gs)(hn:gs<a.tmps.size)(hv:(zK c b).p S (a.tmps.getD gs undef)):
  Region.wanted o (yielded ops a.tmps)=(c&&(b==pol)):=by
 have hget:a.tmps[gs]? =some (a.tmps.getD gs undef):=by
  rw [Rd,Array.getElem?_eq_getElem hn];rfl
 unfold Region.wanted;rw [hg];simp only [yielded,hj,bw,hget]
 cases c with
 |true=>
  have:a.tmps.getD gs undef= .bool b:=kY.1 (by simpa [zK,pK] using hv);rw [this];cases b<;>cases pol<;>rfl
 |false=>
  have:a.tmps.getD gs undef=undef:=by simpa [zK,pK] using hv
  rw [this];cases pol<;>rfl
def QX{c:Bool}{op:Op}{ty:TypeId}(hj:(ops[j]?).bind (·.dst)=some gs)(hgs:Nat.blt gs E.N.n=true)(hg:be E.N G (.tmp gs) (zK c b))(hd:Nat.blt d E.N.n=true)(h:(c&&(b==pol))=true->cu E O G ⟨some d,op,ty,pos,after,some (j,pol)⟩ t)(k:RG E ops tD rest O ((d,pK (c&&(b==pol)) t)::G)):
  RG E ops tD (⟨some d,op,ty,pos,after,some (j,pol)⟩::rest) O G:=fun a w S st=>by
 have hgs' :gs<a.tmps.size:=by rw [st.facts.size];simpa [Aq] using hgs
 have hw:=KC (o:=⟨some d,op,ty,pos,after,some (j,pol)⟩) rfl hj hgs' (hg S a st.facts);refine wpListIn_step fun K hK=>?_;rw [hw];by_cases hc:(c&&(b==pol))=true
 ·rw [bz hc];refine xJ (fun a' w' ⟨v,S',ha,he,hs,hv⟩=>?_) (h hc a w S st.sat st.own st.facts);subst ha;refine hK _ _ (k _ _ _ (st.step he hs hd ?_));simpa only [pK,hc,hM] using hv
 ·rw [aR hc];refine⟨fun _ _=>trivial,hK _ _ (k _ _ S (st.step (kh.refl _ _ _) st.sat hd ?_))⟩;show if _ then _ else _;rw [aR hc]
end
structure Nd where
 slot:Nat
 ty:Ty
 src:Option Nat
def bF(E:En)(O:List OE)(ops:Array Oper)(need:pC)(o:Oper)(t:Ty):Prop:=
 ∀a w S,nC w S->dW E.base E.B w S O->du E.N S a need->
  if Region.wanted o (yielded ops a.tmps)then Sa E.P o a w (fun a' w' => ∃v S',a' =a.put o.dst v/\kh vz w S w' S' /\nC w' S' /\t.p S' v)else t.p S undef
def oO:List Nd->pC
 |[]=>[]
 |n::l=>(n.slot,n.ty)::oO l
def VF(o:Oper)(j:Nat):Bool:=o.after.toList.any fun e=>Nat.beq e.on j&&Region.binds .any e
def wk(l:List Oper)(o:Oper)(i:Nat)(n:Nd):Bool:=
 match n.src with
 |some j=>(match l[j]? with|some p=>(match p.dst with|some d=>Nat.beq d n.slot|none=>false)|none=>false)&&VF o j
 |none=>l.all fun p=>(match p.dst with|some d=> !(Nat.beq d n.slot)|none=>true)||VF p i
def Df(G:pC)(ts:List Ty)(n:Nd):Prop:=
 match n.src with
 |some j=>ts[j]? =some n.ty
 |none=>cH G n.slot=some n.ty
def AX(G:pC)(ts:List Ty):List Nd->Prop
 |[]=>True
 |n::l=>Df G ts n/\AX G ts l
def ajo(o:Oper):Nat:=o.dst.getD 0
def jZ(i:Nat)(o:Oper):Bool:=o.after.toList.all fun e=> !(Region.binds .any e)||Nat.blt e.on i
def DR(E:En)(O:List OE)(G:pC)(l:List Oper)(ts:List Ty):Nat->List Oper->Prop
 |_,[]=>True
 |i,o::rest=>(∃(needs:List Nd) (t:Ty),ts[i]? =some t/\AX G ts needs/\(needs.all (wk l o i))=true/\jZ i o=true/\bF E O l.toArray (oO needs) o t)/\DR E O G l ts (i+1) rest
def KT(N:Nat):List Nat->List Oper->Bool
 |_,[]=>true
 |seen,o::rest=>(match o.dst with|some d=>Nat.blt d N&& !(seen.any (Nat.beq d))&&KT N (d::seen) rest|none=>false)
structure DJ(E:En)(O:List OE)(G:pC)(l:List Oper)(ts:List Ty)(done:Array Bool)(a:Act)(w:World)(S:SH):Prop where
 ext:kh E.B E.w0 E.S0 w S
 sat:nC w S
 own:dW E.base E.B w S O
 size:a.tmps.size=E.N.n
 defers:a.defers=E.N.ds
 dsz:done.size=l.length
 down: ∀j o,l[j]? =some o->done.getD j false=true-> ∀e∈o.after,Region.binds .any e=true->done.getD e.on false=true
 old: ∀k t,cH G k=some t->(∀j o,l[j]? =some o->done.getD j false=true->o.dst≠some k)->t.p S (a.tmps.getD k undef)
 new: ∀j o d t,l[j]? =some o->done.getD j false=true->o.dst=some d->ts[j]? =some t->t.p S (a.tmps.getD d undef)
def UA:List Oper->List Ty->pC->pC
 |o::l,t::ts,G=>(ajo o,t)::UA l ts G
 |_,_,G=>G
def VV(hd:d<a.tmps.size):(a.put (some d) v).tmps.getD k undef=if d=k then v else a.tmps.getD k undef:=by
 by_cases h:d=k
 ·subst h;simp [Act.put,Rd,hd]
 ·simp [Act.put,Rd,h]
def zZ(done:Array Bool):Nat:=done.toList.countP (· ==false)
variable{done:Array Bool}
def KK(h:done.getD i true=false):zZ (done.setIfInBounds i true)+1=zZ done:=by
 have hlt:i<done.size:=by
  rcases wN i done.size with h' |h'
  ·exact h'
  ·simp [Array.getElem?_eq_none h']at h
 have hv:done[i]=false:=by simpa [hlt] using h
 unfold zZ;rw [Array.toList_setIfInBounds,List.countP_set (by simpa using hlt)];have M:(done.toList[i]'(by simpa using hlt))=false:=by simpa using hv
 have hpos:0<done.toList.countP (· ==false):=List.countP_pos_iff.2 ⟨done.toList[i]'(by simpa using hlt),A5 _,by rw [M];rfl⟩;rw [M,bz (show(false==false)=true from rfl),aR (show¬((true==false)=true) by decide)];omega
variable{need:pC}
section
variable{E:En}
def ae(hg:o.guard=none)(h:cu E O need o t):bF E O ops need o t:=fun a w S hs ho hf=>by
 have:Region.wanted o (yielded ops a.tmps)=true:=by unfold Region.wanted;rw [hg]
 rw [this,bz rfl];exact h a w S hs ho hf
def zS{l:List Oper}{c:Bool}(hg:o.guard=some (j,pol))(hj:((l.toArray)[j]?).bind (·.dst)=some gs)(hgs:Nat.blt gs E.N.n=true)(H:be E.N need (.tmp gs) (zK c b))(h:(c&&(b==pol))=true->cu E O need o t):bF E O l.toArray need o (pK (c&&(b==pol)) t):=fun a w S hs ho hf=>by
 have hw:=KC (ops:=l.toArray) hg hj (by rw [hf.size];simpa [Aq] using hgs) (H S a hf);rw [hw];by_cases hc:(c&&(b==pol))=true
 ·rw [bz hc];refine s9 (fun a' w' ⟨v,S',ha,he,hs,hv⟩=>⟨v,S',ha,he,hs,?_⟩) (h hc a w S hs ho hf);show if _ then _ else _;rw [bz hc];exact hv
 ·rw [aR hc];show if _ then _ else _;rw [aR hc]
end
variable{α0 α1 α2 α3 α4 α5:Type}{Gf:α0->α1->α2->α3->α4->α5->pC}{Of:α0->α1->α2->α3->α4->α5->List OE}{α6:Type}
section
variable{E:En}
def Y6{id:Nat}{ay:Prop}{Of:List OE}{Gf:pC}(hK:ay->AT E tD .normal (Of) (Gf))(h:(ay->AT E tD .normal (Of) (Gf))->CG E (Exit.inBlock id tD) c O G):CG E tD (.block id c) O G:=an (h hK)
def A1{x y:Code}{ay:Prop}{Of:List OE}{Gf:pC}(hK:ay->CG E tD y (Of) (Gf))
  (h:(ay->AT E (Exit.then (y.wpIn (fw E.r) 0 E.P tD) tD) .normal (Of) (Gf))->CG E (Exit.then (y.wpIn (fw E.r) 0 E.P tD) tD) x O G):CG E tD (.seq x y) O G:=aC (h (fun hz=>hK hz))
def XI{ay:Nat->α0->Prop}{Of:α0->List OE}{Gf:α0->pC}(h0: ∀x0,ay 0 x0->False)(h: ∀n,(∀x0,ay n x0->LG E tD c (Of x0) (Gf x0))-> ∀x0,ay (n+1) x0->LG E tD c (Of x0) (Gf x0)): ∀n,∀x0,ay n x0->LG E tD c (Of x0) (Gf x0)
 |0=>fun x0 hz=>(h0 x0 hz).elim
 |n+1=>h n (XI h0 h n)
def gG{ay:List β->α0->Prop}{Of:List β->α0->List OE}{Gf:List β->α0->pC}(h0: ∀x0,ay [] x0->LG E tD c (Of [] x0) (Gf [] x0))(h: ∀b l,(∀x0,ay l x0->LG E tD c (Of l x0) (Gf l x0))-> ∀x0,ay (b::l) x0->LG E tD c (Of (b::l) x0) (Gf (b::l) x0)): ∀l,∀x0,ay l x0->LG E tD c (Of l x0) (Gf l x0)
 |[]=>h0
 |b::l=>h b l (gG h0 h l)
def XD{ay:Nat->α0->Prop}{Of:Nat->α0->List OE}{Gf:Nat->α0->pC}(h0: ∀x0,ay 0 x0->LG E tD c (Of 0 x0) (Gf 0 x0))(h: ∀n,(∀x0,ay n x0->LG E tD c (Of n x0) (Gf n x0))-> ∀x0,ay (n+1) x0->LG E tD c (Of (n+1) x0) (Gf (n+1) x0)): ∀n,∀x0,ay n x0->LG E tD c (Of n x0) (Gf n x0)
 |0=>h0
 |n+1=>h n (XD h0 h n)
def Pk{id:Nat}{ay:α0->Prop}{Of:α0->List OE}{Gf:α0->pC}(hK: ∀x0,ay x0->AT E tD .normal (Of x0) (Gf x0))(h:(∀x0,ay x0->AT E tD .normal (Of x0) (Gf x0))->CG E (Exit.inBlock id tD) c O G):CG E tD (.block id c) O G:=an (h hK)
def j8{x y:Code}{ay:α0->Prop}{Of:α0->List OE}{Gf:α0->pC}(hK: ∀x0,ay x0->CG E tD y (Of x0) (Gf x0))(h:(∀x0,ay x0->AT E (Exit.then (y.wpIn (fw E.r) 0 E.P tD) tD) .normal (Of x0) (Gf x0))->CG E (Exit.then (y.wpIn (fw E.r) 0 E.P tD) tD) x O G):CG E tD (.seq x y) O G:=aC (h (fun x0=>fun hz=>hK x0 hz))
def XH{ay:Nat->α0->α1->Prop}{Of:α0->α1->List OE}{Gf:α0->α1->pC}(h0: ∀x0 x1,ay 0 x0 x1->False)(h: ∀n,(∀x0 x1,ay n x0 x1->LG E tD c (Of x0 x1) (Gf x0 x1))-> ∀x0 x1,ay (n+1) x0 x1->LG E tD c (Of x0 x1) (Gf x0 x1)): ∀n,∀x0 x1,ay n x0 x1->LG E tD c (Of x0 x1) (Gf x0 x1)
 |0=>fun x0 x1 hz=>(h0 x0 x1 hz).elim
 |n+1=>h n (XH h0 h n)
def jP{ay:List β->α0->α1->Prop}{Of:List β->α0->α1->List OE}{Gf:List β->α0->α1->pC}(h0: ∀x0 x1,ay [] x0 x1->LG E tD c (Of [] x0 x1) (Gf [] x0 x1))(h: ∀b l,(∀x0 x1,ay l x0 x1->LG E tD c (Of l x0 x1) (Gf l x0 x1))-> ∀x0 x1,ay (b::l) x0 x1->LG E tD c (Of (b::l) x0 x1) (Gf (b::l) x0 x1)): ∀l,∀x0 x1,ay l x0 x1->LG E tD c (Of l x0 x1) (Gf l x0 x1)
 |[]=>h0
 |b::l=>h b l (jP h0 h l)
def XC{ay:Nat->α0->α1->Prop}{Of:Nat->α0->α1->List OE}{Gf:Nat->α0->α1->pC}(h0: ∀x0 x1,ay 0 x0 x1->LG E tD c (Of 0 x0 x1) (Gf 0 x0 x1))(h: ∀n,(∀x0 x1,ay n x0 x1->LG E tD c (Of n x0 x1) (Gf n x0 x1))-> ∀x0 x1,ay (n+1) x0 x1->LG E tD c (Of (n+1) x0 x1) (Gf (n+1) x0 x1)): ∀n,∀x0 x1,ay n x0 x1->LG E tD c (Of n x0 x1) (Gf n x0 x1)
 |0=>h0
 |n+1=>h n (XC h0 h n)
def Y5{id:Nat}{ay:α0->α1->Prop}{Of:α0->α1->List OE}{Gf:α0->α1->pC}(hK: ∀x0 x1,ay x0 x1->AT E tD .normal (Of x0 x1) (Gf x0 x1))(h:(∀x0 x1,ay x0 x1->AT E tD .normal (Of x0 x1) (Gf x0 x1))->CG E (Exit.inBlock id tD) c O G):CG E tD (.block id c) O G:=an (h hK)
def Y2{x y:Code}{ay:α0->α1->Prop}{Of:α0->α1->List OE}{Gf:α0->α1->pC}(hK: ∀x0 x1,ay x0 x1->CG E tD y (Of x0 x1) (Gf x0 x1))(h:(∀x0 x1,ay x0 x1->AT E (Exit.then (y.wpIn (fw E.r) 0 E.P tD) tD) .normal (Of x0 x1) (Gf x0 x1))->CG E (Exit.then (y.wpIn (fw E.r) 0 E.P tD) tD) x O G):CG E tD (.seq x y) O G:=aC (h (fun x0 x1=>fun hz=>hK x0 x1 hz))
def XG{ay:Nat->α0->α1->α2->Prop}{Of:α0->α1->α2->List OE}{Gf:α0->α1->α2->pC}(h0: ∀x0 x1 x2,ay 0 x0 x1 x2->False)(h: ∀n,(∀x0 x1 x2,ay n x0 x1 x2->LG E tD c (Of x0 x1 x2) (Gf x0 x1 x2))-> ∀x0 x1 x2,ay (n+1) x0 x1 x2->LG E tD c (Of x0 x1 x2) (Gf x0 x1 x2)): ∀n,∀x0 x1 x2,ay n x0 x1 x2->LG E tD c (Of x0 x1 x2) (Gf x0 x1 x2)
 |0=>fun x0 x1 x2 hz=>(h0 x0 x1 x2 hz).elim
 |n+1=>h n (XG h0 h n)
def xn{ay:List β->α0->α1->α2->Prop}{Of:List β->α0->α1->α2->List OE}{Gf:List β->α0->α1->α2->pC}(h0: ∀x0 x1 x2,ay [] x0 x1 x2->LG E tD c (Of [] x0 x1 x2) (Gf [] x0 x1 x2))(h: ∀b l,(∀x0 x1 x2,ay l x0 x1 x2->LG E tD c (Of l x0 x1 x2) (Gf l x0 x1 x2))-> ∀x0 x1 x2,ay (b::l) x0 x1 x2->LG E tD c (Of (b::l) x0 x1 x2) (Gf (b::l) x0 x1 x2)): ∀l,∀x0 x1 x2,ay l x0 x1 x2->LG E tD c (Of l x0 x1 x2) (Gf l x0 x1 x2)
 |[]=>h0
 |b::l=>h b l (xn h0 h l)
def Q4{ay:Nat->α0->α1->α2->Prop}{Of:Nat->α0->α1->α2->List OE}{Gf:Nat->α0->α1->α2->pC}(h0: ∀x0 x1 x2,ay 0 x0 x1 x2->LG E tD c (Of 0 x0 x1 x2) (Gf 0 x0 x1 x2))(h: ∀n,(∀x0 x1 x2,ay n x0 x1 x2->LG E tD c (Of n x0 x1 x2) (Gf n x0 x1 x2))-> ∀x0 x1 x2,ay (n+1) x0 x1 x2->LG E tD c (Of (n+1) x0 x1 x2) (Gf (n+1) x0 x1 x2)): ∀n,∀x0 x1 x2,ay n x0 x1 x2->LG E tD c (Of n x0 x1 x2) (Gf n x0 x1 x2)
 |0=>h0
 |n+1=>h n (Q4 h0 h n)
def DW{x y:Code}{ay:α0->α1->α2->Prop}{Of:α0->α1->α2->List OE}{Gf:α0->α1->α2->pC}(hK: ∀x0 x1 x2,ay x0 x1 x2->CG E tD y (Of x0 x1 x2) (Gf x0 x1 x2))(h:(∀x0 x1 x2,ay x0 x1 x2->AT E (Exit.then (y.wpIn (fw E.r) 0 E.P tD) tD) .normal (Of x0 x1 x2) (Gf x0 x1 x2))->CG E (Exit.then (y.wpIn (fw E.r) 0 E.P tD) tD) x O G):CG E tD (.seq x y) O G:=aC (h (fun x0 x1 x2=>fun hz=>hK x0 x1 x2 hz))
def XF{ay:Nat->α0->α1->α2->α3->Prop}{Of:α0->α1->α2->α3->List OE}{Gf:α0->α1->α2->α3->pC}(h0: ∀x0 x1 x2 x3,ay 0 x0 x1 x2 x3->False)(h: ∀n,(∀x0 x1 x2 x3,ay n x0 x1 x2 x3->LG E tD c (Of x0 x1 x2 x3) (Gf x0 x1 x2 x3))-> ∀x0 x1 x2 x3,ay (n+1) x0 x1 x2 x3->LG E tD c (Of x0 x1 x2 x3) (Gf x0 x1 x2 x3)): ∀n,∀x0 x1 x2 x3,ay n x0 x1 x2 x3->LG E tD c (Of x0 x1 x2 x3) (Gf x0 x1 x2 x3)
 |0=>fun x0 x1 x2 x3 hz=>(h0 x0 x1 x2 x3 hz).elim
 |n+1=>h n (XF h0 h n)
def kT{ay:List β->α0->α1->α2->α3->Prop}{Of:List β->α0->α1->α2->α3->List OE}{Gf:List β->α0->α1->α2->α3->pC}(h0: ∀x0 x1 x2 x3,ay [] x0 x1 x2 x3->LG E tD c (Of [] x0 x1 x2 x3) (Gf [] x0 x1 x2 x3))(h: ∀b l,(∀x0 x1 x2 x3,ay l x0 x1 x2 x3->LG E tD c (Of l x0 x1 x2 x3) (Gf l x0 x1 x2 x3))-> ∀x0 x1 x2 x3,ay (b::l) x0 x1 x2 x3->LG E tD c (Of (b::l) x0 x1 x2 x3) (Gf (b::l) x0 x1 x2 x3)): ∀l,∀x0 x1 x2 x3,ay l x0 x1 x2 x3->LG E tD c (Of l x0 x1 x2 x3) (Gf l x0 x1 x2 x3)
 |[]=>h0
 |b::l=>h b l (kT h0 h l)
def XB{ay:Nat->α0->α1->α2->α3->Prop}{Of:Nat->α0->α1->α2->α3->List OE}{Gf:Nat->α0->α1->α2->α3->pC}(h0: ∀x0 x1 x2 x3,ay 0 x0 x1 x2 x3->LG E tD c (Of 0 x0 x1 x2 x3) (Gf 0 x0 x1 x2 x3))(h: ∀n,(∀x0 x1 x2 x3,ay n x0 x1 x2 x3->LG E tD c (Of n x0 x1 x2 x3) (Gf n x0 x1 x2 x3))-> ∀x0 x1 x2 x3,ay (n+1) x0 x1 x2 x3->LG E tD c (Of (n+1) x0 x1 x2 x3) (Gf (n+1) x0 x1 x2 x3)): ∀n,∀x0 x1 x2 x3,ay n x0 x1 x2 x3->LG E tD c (Of n x0 x1 x2 x3) (Gf n x0 x1 x2 x3)
 |0=>h0
 |n+1=>h n (XB h0 h n)
def Il{id:Nat}{ay:α0->α1->α2->α3->Prop}{Of:α0->α1->α2->α3->List OE}{Gf:α0->α1->α2->α3->pC}(hK: ∀x0 x1 x2 x3,ay x0 x1 x2 x3->AT E tD .normal (Of x0 x1 x2 x3) (Gf x0 x1 x2 x3))(h:(∀x0 x1 x2 x3,ay x0 x1 x2 x3->AT E tD .normal (Of x0 x1 x2 x3) (Gf x0 x1 x2 x3))->CG E (Exit.inBlock id tD) c O G):CG E tD (.block id c) O G:=an (h hK)
def qe{ay:List β->α0->α1->α2->α3->α4->Prop}{Of:List β->α0->α1->α2->α3->α4->List OE}{Gf:List β->α0->α1->α2->α3->α4->pC}(h0: ∀x0 x1 x2 x3 x4,ay [] x0 x1 x2 x3 x4->LG E tD c (Of [] x0 x1 x2 x3 x4) (Gf [] x0 x1 x2 x3 x4))(h: ∀b l,(∀x0 x1 x2 x3 x4,ay l x0 x1 x2 x3 x4->LG E tD c (Of l x0 x1 x2 x3 x4) (Gf l x0 x1 x2 x3 x4))-> ∀x0 x1 x2 x3 x4,ay (b::l) x0 x1 x2 x3 x4->LG E tD c (Of (b::l) x0 x1 x2 x3 x4) (Gf (b::l) x0 x1 x2 x3 x4)): ∀l,∀x0 x1 x2 x3 x4,ay l x0 x1 x2 x3 x4->LG E tD c (Of l x0 x1 x2 x3 x4) (Gf l x0 x1 x2 x3 x4)
 |[]=>h0
 |b::l=>h b l (qe h0 h l)
def XE{ay:Nat->α0->α1->α2->α3->α4->α5->Prop}(h0: ∀x0 x1 x2 x3 x4 x5,ay 0 x0 x1 x2 x3 x4 x5->False)(h: ∀n,(∀x0 x1 x2 x3 x4 x5,ay n x0 x1 x2 x3 x4 x5->LG E tD c (Of x0 x1 x2 x3 x4 x5) (Gf x0 x1 x2 x3 x4 x5))-> ∀x0 x1 x2 x3 x4 x5,ay (n+1) x0 x1 x2 x3 x4 x5->LG E tD c (Of x0 x1 x2 x3 x4 x5) (Gf x0 x1 x2 x3 x4 x5)): ∀n,∀x0 x1 x2 x3 x4 x5,ay n x0 x1 x2 x3 x4 x5->LG E tD c (Of x0 x1 x2 x3 x4 x5) (Gf x0 x1 x2 x3 x4 x5)
 |0=>fun x0 x1 x2 x3 x4 x5 hz=>(h0 x0 x1 x2 x3 x4 x5 hz).elim
 |n+1=>h n (XE h0 h n)
def MO{ay:List β->α0->α1->α2->α3->α4->α5->Prop}{Of:List β->α0->α1->α2->α3->α4->α5->List OE}{Gf:List β->α0->α1->α2->α3->α4->α5->pC}(h0: ∀x0 x1 x2 x3 x4 x5,ay [] x0 x1 x2 x3 x4 x5->LG E tD c (Of [] x0 x1 x2 x3 x4 x5) (Gf [] x0 x1 x2 x3 x4 x5))(h: ∀b l,(∀x0 x1 x2 x3 x4 x5,ay l x0 x1 x2 x3 x4 x5->LG E tD c (Of l x0 x1 x2 x3 x4 x5) (Gf l x0 x1 x2 x3 x4 x5))-> ∀x0 x1 x2 x3 x4 x5,ay (b::l) x0 x1 x2 x3 x4 x5->LG E tD c (Of (b::l) x0 x1 x2 x3 x4 x5) (Gf (b::l) x0 x1 x2 x3 x4 x5)): ∀l,∀x0 x1 x2 x3 x4 x5,ay l x0 x1 x2 x3 x4 x5->LG E tD c (Of l x0 x1 x2 x3 x4 x5) (Gf l x0 x1 x2 x3 x4 x5)
 |[]=>h0
 |b::l=>h b l (MO h0 h l)
def Y4{id:Nat}{ay:α0->α1->α2->α3->α4->α5->Prop}(hK: ∀x0 x1 x2 x3 x4 x5,ay x0 x1 x2 x3 x4 x5->AT E tD .normal (Of x0 x1 x2 x3 x4 x5) (Gf x0 x1 x2 x3 x4 x5))(h:(∀x0 x1 x2 x3 x4 x5,ay x0 x1 x2 x3 x4 x5->AT E tD .normal (Of x0 x1 x2 x3 x4 x5) (Gf x0 x1 x2 x3 x4 x5))->CG E (Exit.inBlock id tD) c O G):CG E tD (.block id c) O G:=an (h hK)
def Y1{x y:Code}{ay:α0->α1->α2->α3->α4->α5->Prop}(hK: ∀x0 x1 x2 x3 x4 x5,ay x0 x1 x2 x3 x4 x5->CG E tD y (Of x0 x1 x2 x3 x4 x5) (Gf x0 x1 x2 x3 x4 x5))(h:(∀x0 x1 x2 x3 x4 x5,ay x0 x1 x2 x3 x4 x5->AT E (Exit.then (y.wpIn (fw E.r) 0 E.P tD) tD) .normal (Of x0 x1 x2 x3 x4 x5) (Gf x0 x1 x2 x3 x4 x5))->CG E (Exit.then (y.wpIn (fw E.r) 0 E.P tD) tD) x O G):CG E tD (.seq x y) O G:=aC (h (fun x0 x1 x2 x3 x4 x5=>fun hz=>hK x0 x1 x2 x3 x4 x5 hz))
def TD{ay:List β->α0->α1->α2->α3->α4->α5->α6->Prop}{Of:List β->α0->α1->α2->α3->α4->α5->α6->List OE}{Gf:List β->α0->α1->α2->α3->α4->α5->α6->pC}(h0: ∀x0 x1 x2 x3 x4 x5 x6,ay [] x0 x1 x2 x3 x4 x5 x6->LG E tD c (Of [] x0 x1 x2 x3 x4 x5 x6) (Gf [] x0 x1 x2 x3 x4 x5 x6))(h: ∀b l,(∀x0 x1 x2 x3 x4 x5 x6,ay l x0 x1 x2 x3 x4 x5 x6->LG E tD c (Of l x0 x1 x2 x3 x4 x5 x6) (Gf l x0 x1 x2 x3 x4 x5 x6))-> ∀x0 x1 x2 x3 x4 x5 x6,ay (b::l) x0 x1 x2 x3 x4 x5 x6->LG E tD c (Of (b::l) x0 x1 x2 x3 x4 x5 x6) (Gf (b::l) x0 x1 x2 x3 x4 x5 x6)): ∀l,∀x0 x1 x2 x3 x4 x5 x6,ay l x0 x1 x2 x3 x4 x5 x6->LG E tD c (Of l x0 x1 x2 x3 x4 x5 x6) (Gf l x0 x1 x2 x3 x4 x5 x6)
 |[]=>h0
 |b::l=>h b l (TD h0 h l)
def Y0{x y:Code}{ay:α0->α1->α2->α3->α4->α5->α6->Prop}{Of:α0->α1->α2->α3->α4->α5->α6->List OE}{Gf:α0->α1->α2->α3->α4->α5->α6->pC}(hK: ∀x0 x1 x2 x3 x4 x5 x6,ay x0 x1 x2 x3 x4 x5 x6->CG E tD y (Of x0 x1 x2 x3 x4 x5 x6) (Gf x0 x1 x2 x3 x4 x5 x6))(h:(∀x0 x1 x2 x3 x4 x5 x6,ay x0 x1 x2 x3 x4 x5 x6->AT E (Exit.then (y.wpIn (fw E.r) 0 E.P tD) tD) .normal (Of x0 x1 x2 x3 x4 x5 x6) (Gf x0 x1 x2 x3 x4 x5 x6))->CG E (Exit.then (y.wpIn (fw E.r) 0 E.P tD) tD) x O G):CG E tD (.seq x y) O G:=aC (h (fun x0 x1 x2 x3 x4 x5 x6=>fun hz=>hK x0 x1 x2 x3 x4 x5 x6 hz))
def MN{α7:Type}{ay:List β->α0->α1->α2->α3->α4->α5->α6->α7->Prop}{Of:List β->α0->α1->α2->α3->α4->α5->α6->α7->List OE}{Gf:List β->α0->α1->α2->α3->α4->α5->α6->α7->pC}(h0: ∀x0 x1 x2 x3 x4 x5 x6 x7,ay [] x0 x1 x2 x3 x4 x5 x6 x7->LG E tD c (Of [] x0 x1 x2 x3 x4 x5 x6 x7) (Gf [] x0 x1 x2 x3 x4 x5 x6 x7))(h: ∀b l,(∀x0 x1 x2 x3 x4 x5 x6 x7,ay l x0 x1 x2 x3 x4 x5 x6 x7->LG E tD c (Of l x0 x1 x2 x3 x4 x5 x6 x7) (Gf l x0 x1 x2 x3 x4 x5 x6 x7))-> ∀x0 x1 x2 x3 x4 x5 x6 x7,ay (b::l) x0 x1 x2 x3 x4 x5 x6 x7->LG E tD c (Of (b::l) x0 x1 x2 x3 x4 x5 x6 x7) (Gf (b::l) x0 x1 x2 x3 x4 x5 x6 x7)): ∀l,∀x0 x1 x2 x3 x4 x5 x6 x7,ay l x0 x1 x2 x3 x4 x5 x6 x7->LG E tD c (Of l x0 x1 x2 x3 x4 x5 x6 x7) (Gf l x0 x1 x2 x3 x4 x5 x6 x7)
 |[]=>h0
 |b::l=>h b l (MN h0 h l)
end
def bs{α:Type _}{β:Type _}{x:Option α}{k:α->Option β}{r:β}(h:x.bind k=some r): ∃y,x=some y/\k y=some r:=by
 cases x with
 |none=>cases h
 |some y=>exact⟨y,rfl,h⟩
def ct{β:Type _}{x y:Option β}{r:β}(h:(if b=true then x else y)=some r)(H:b=true):x=some r:=by rwa [bz H]at h
def cf{β:Type _}{x y:Option β}{r:β}(h:(if b=true then x else y)=some r)(H:b=false):y=some r:=by rwa [aR (by rw [H];decide)]at h
def so{β:Type _}{x r:β}(h:some x=some r):x=r:=by simpa using h
def og [Inhabited α]{x:Option α}{k:α->Option β}{d:Option β}{r:β}(h:(if b=true then x.bind k else d)=some r): ∃y,(b=true->x=some y/\k y=some r)/\(b=false->d=some r):=by
 cases b with
 |true=>obtain⟨y,I,M⟩:=bs (ct h rfl);exact⟨y,fun _=>⟨I,M⟩,fun e=>(by cases e)⟩
 |false=>exact⟨default,fun e=>(by cases e),fun _=>cf h rfl⟩
def dD{α β:Type}(p:Rp α)(q:Rp β):Rp (α×β) where
 sz:=p.sz+q.sz
 agg:=true
 rc:=fun S cs x=> ∃a b,cs=a++b/\p.rc S a x.1/\q.rc S b x.2
 mono:=fun h ⟨a,b,e,I,M⟩=>⟨a,b,e,p.mono h I,q.mono h M⟩
 len:=fun⟨a,b,e,I,M⟩=>by rw [e,lj,p.len I,q.len M]
 one:=fun⟨a,b,e,I,M⟩ c hc=>by
  rw [e]at hc;rcases qR.1 hc with h|h
  ·exact p.one I c h
  ·exact q.one M c h
 sc:=fun h=>by cases h
def sr{α β:Type}(p:Rp α)(f:β->α):Rp β where
 sz:=p.sz
 agg:=true
 rc:=fun S cs x=>p.rc S cs (f x)
 mono:=fun h k=>p.mono h k
 len:=fun h=>p.len h
 one:=fun h=>p.one h
 sc:=fun h=>by cases h
def ek{p:Rp α}{f:β->α}:ro (sr p f) 0 p f:=fun S cs x h=>by
 have h' :p.rc S cs (f x):=h;have hl:=p.len h';rw [xu,<-hl,DZ];exact h'
variable{γ:Type}
def iP{p:Rp α}{r:Rp γ}{get:γ->α×β}(h:ro r off (dD p q) get):ro r off p (fun x=>(get x).1):=fun S cs x k=>by
 obtain⟨a,b,e,I,M⟩:=h S cs x k;have hl:=p.len I;have hl2:=q.len M;have:(cs.drop off).take p.sz=a:=by
  have e2:=congrArg (List.take p.sz) e;rw [DX,DY (by show p.sz<=p.sz+q.sz;omega),<-hl,NO]at e2;rw [<-hl];exact e2
 rw [this];exact I
def bC{p:Rp α}{r:Rp γ}{off' :Nat}{get:γ->α×β}(h:ro r off (dD p q) get)(ho:off' =off+p.sz):ro r off' q (fun x=>(get x).2):=fun S cs x k=>by
 obtain⟨a,b,e,I,M⟩:=h S cs x k;have hl:=p.len I;have hl2:=q.len M;have:(cs.drop off').take q.sz=b:=by
  have e2:=congrArg (List.drop p.sz) e;rw [Cm,uf,<-hl,List.drop_left]at e2;rw [ho,<-hl,<-e2];congr 1;show q.sz=p.sz+q.sz-a.length;omega
 rw [this];exact M
section
variable{E:En}
def aeZ{op:Op}{ty:TypeId}(hj:(ops[j]?).bind (·.dst)=some gs)(hgs:Nat.blt gs E.N.n=true)(hg:cH G gs=some (Q rB b))(hd:Nat.blt d E.N.n=true)(h:b=true->cu E O G ⟨some d,op,ty,pos,after,some (j,true)⟩ t)(k:RG E ops tD rest O ((d,pK b t)::G)):RG E ops tD (⟨some d,op,ty,pos,after,some (j,true)⟩::rest) O G:=by
 have e:(true&&(b==true))=b:=by cases b<;>rfl
 exact QX hj hgs (zJ hg) hd (by rw [e];exact h) (by rw [e];exact k)
def ae0{op:Op}{ty:TypeId}(hj:(ops[j]?).bind (·.dst)=some gs)(hgs:Nat.blt gs E.N.n=true)(hg:cH G gs=some (Q rB b))(hd:Nat.blt d E.N.n=true)(h:(!b)=true->cu E O G ⟨some d,op,ty,pos,after,some (j,false)⟩ t)(k:RG E ops tD rest O ((d,pK (!b) t)::G)):RG E ops tD (⟨some d,op,ty,pos,after,some (j,false)⟩::rest) O G:=by
 have e:(true&&(b==false))= !b:=by cases b<;>rfl
 exact QX hj hgs (zJ hg) hd (by rw [e];exact h) (by rw [e];exact k)
def kS{c:Bool}{op:Op}{ty:TypeId}(hj:(ops[j]?).bind (·.dst)=some gs)(hgs:Nat.blt gs E.N.n=true)(hg:cH G gs=some (pK c (Q rB b)))(hd:Nat.blt d E.N.n=true)(h:(c&&b)=true->cu E O G ⟨some d,op,ty,pos,after,some (j,true)⟩ t)(k:RG E ops tD rest O ((d,pK (c&&b) t)::G)):RG E ops tD (⟨some d,op,ty,pos,after,some (j,true)⟩::rest) O G:=by
 have e:(c&&(b==true))=(c&&b):=by cases b<;>rfl
 exact QX hj hgs (DE hg) hd (by rw [e];exact h) (by rw [e];exact k)
def AV{c:Bool}{op:Op}{ty:TypeId}(hj:(ops[j]?).bind (·.dst)=some gs)(hgs:Nat.blt gs E.N.n=true)(hg:cH G gs=some (pK c (Q rB b)))(hd:Nat.blt d E.N.n=true)(h:(c&& !b)=true->cu E O G ⟨some d,op,ty,pos,after,some (j,false)⟩ t)(k:RG E ops tD rest O ((d,pK (c&& !b) t)::G)):RG E ops tD (⟨some d,op,ty,pos,after,some (j,false)⟩::rest) O G:=by
 have e:(c&&(b==false))=(c&& !b):=by cases b<;>rfl
 exact QX hj hgs (DE hg) hd (by rw [e];exact h) (by rw [e];exact k)
def cP{l:List Oper}(hg:o.guard=some (j,true))(hj:((l.toArray)[j]?).bind (·.dst)=some gs)(hgs:Nat.blt gs E.N.n=true)(H:cH need gs=some (Q rB b))(h:b=true->cu E O need o t):bF E O l.toArray need o (pK b t):=by
 have e:(true&&(b==true))=b:=by cases b<;>rfl
 have:=zS (t:=t) hg hj hgs (zJ (E:=E) H) (by rw [e];exact h)
 rwa [e]at this
def oW{l:List Oper}(hg:o.guard=some (j,false))(hj:((l.toArray)[j]?).bind (·.dst)=some gs)(hgs:Nat.blt gs E.N.n=true)(H:cH need gs=some (Q rB b))(h:(!b)=true->cu E O need o t):bF E O l.toArray need o (pK (!b) t):=by
 have e:(true&&(b==false))= !b:=by cases b<;>rfl
 have:=zS (t:=t) hg hj hgs (zJ (E:=E) H) (by rw [e];exact h)
 rwa [e]at this
def BU{l:List Oper}{c:Bool}(hg:o.guard=some (j,true))(hj:((l.toArray)[j]?).bind (·.dst)=some gs)(hgs:Nat.blt gs E.N.n=true)(H:cH need gs=some (pK c (Q rB b)))(h:(c&&b)=true->cu E O need o t):bF E O l.toArray need o (pK (c&&b) t):=by
 have e:(c&&(b==true))=(c&&b):=by cases b<;>rfl
 have:=zS (t:=t) hg hj hgs (DE (E:=E) H) (by rw [e];exact h)
 rwa [e]at this
def wM{l:List Oper}{c:Bool}(hg:o.guard=some (j,false))(hj:((l.toArray)[j]?).bind (·.dst)=some gs)(hgs:Nat.blt gs E.N.n=true)(H:cH need gs=some (pK c (Q rB b)))(h:(c&& !b)=true->cu E O need o t):bF E O l.toArray need o (pK (c&& !b) t):=by
 have e:(c&&(b==false))=(c&& !b):=by cases b<;>rfl
 have:=zS (t:=t) hg hj hgs (DE (E:=E) H) (by rw [e];exact h)
 rwa [e]at this
def G3{a:Bool}(h:a=true)(k:b=true):(a&&b)=true:=by rw [h,k];rfl
def Ea{a:Bool}(h:a=false):(!a)=true:=by rw [h];rfl
def vU{c:Operand}{x y:Code}(H:be E.N G c (Q rB b))(h:b=true)(V:CG E tD x O G):CG E tD (.cond c x y) O G:=tu H (fun _=>V) (fun e=>by rw [h]at e;cases e)
def vV{c:Operand}{x y:Code}(H:be E.N G c (Q rB b))(h:b=false)(hy:CG E tD y O G):CG E tD (.cond c x y) O G:=tu H (fun e=>by rw [h]at e;cases e) (fun _=>hy)
end
def og2 [Inhabited α]{x:Option α}{k:α->Option β}{r:β}(h:b=true->x.bind k=some r): ∃y,b=true->x=some y/\k y=some r:=by
 cases b with
 |true=>obtain⟨y,I,M⟩:=bs (h rfl);exact⟨y,fun _=>⟨I,M⟩⟩
 |false=>exact⟨default,fun e=>(by cases e)⟩
def nz(n:Int):Option Unit:=if n=0 then none else some ()
def acy{n:Int}{u:Unit}(h:nz n=some u):n≠0:=fun e=>by rw [e]at h;cases h
section
variable{E:En}{ty:TypeId}
def wo{c:Operand}{q:Bool}(hc:be E.N G c (Q rB b))(V:b=true->be E.N G x (Q rB q)):cu E O G ⟨dst,.pick c x (.const (.bool false)),ty,pos,after,g⟩ (Q rB (b&&q)):=by
 refine JQ hc (fun h=>?_) (fun h=>?_)
 ·subst h;exact V rfl
 ·subst h;exact hB
def Dw{c:Operand}{q:Bool}(hc:be E.N G c (Q rB b))(V:b=false->be E.N G x (Q rB q)):cu E O G ⟨dst,.pick c (.const (.bool true)) x,ty,pos,after,g⟩ (Q rB (b||q)):=by
 refine JQ hc (fun h=>?_) (fun h=>?_)
 ·subst h;exact hB
 ·subst h;exact V rfl
def ee{c:Operand}{q t:Bool}(hc:be E.N G c (Q rB b))(V:b=true->be E.N G x (Q rB q))(e1:b=true->some q=some t)(e0:b=false->some false=some t):cu E O G ⟨dst,.pick c x (.const (.bool false)),ty,pos,after,g⟩ (Q rB t):=by
 refine JQ hc (fun h=>?_) (fun h=>?_)
 ·rw [<-so (e1 h)];exact V h
 ·rw [<-so (e0 h)];exact hB
def nt{c:Operand}{q t:Bool}(hc:be E.N G c (Q rB b))(V:b=false->be E.N G x (Q rB q))(e1:(!b)=true->some q=some t)(e0:(!b)=false->some true=some t):cu E O G ⟨dst,.pick c (.const (.bool true)) x,ty,pos,after,g⟩ (Q rB t):=by
 refine JQ hc (fun h=>?_) (fun h=>?_)
 ·rw [<-so (e0 (by rw [h];rfl))];exact hB
 ·rw [<-so (e1 (by rw [h];rfl))];exact V h
def UF(hi:ts[i]? =some t)(V:be E.N G x (tT ts)):cu E O G ⟨dst,.extract x i,ty,pos,after,g⟩ t:=
 .of_pure fun a w S _ _ hf=>by
  obtain⟨vs,I,M⟩:=V S a hf;obtain⟨v,h3,h4⟩:=M.at_ i t hi;exact⟨v,by simp [execOp,I,Instr.extract,h3],h4⟩
def V1{k:IntKind}{n:Int}(V:be E.N G x (Q (rI k) m))(hy:be E.N G y (Q (rI k) n)):cu E O G ⟨dst,.call ⟨.builtin .max,#[x,y],ats⟩,ty,pos,after,g⟩ (Q (rI k) (max m n)):=
 .of_pure fun a w S _ _ hf=>by
  have I:a.eval x= .int k m:=d7.1 (V S a hf);have M:a.eval y= .int k n:=d7.1 (hy S a hf);refine⟨.int k (if n>m then n else m),by simp [execOp,resolve,invoke,builtin,Builtin.max_,Builtin.max2,I,M],d7.2 ?_⟩;congr 1;rw [Int.max_def];split<;>split<;>omega
def rE{k:IntKind}{n:Int}(V:be E.N G x (Q (rI k) m))(hy:be E.N G y (Q (rI k) n)):cu E O G ⟨dst,.call ⟨.builtin .min,#[x,y],ats⟩,ty,pos,after,g⟩ (Q (rI k) (min m n)):=
 .of_pure fun a w S _ _ hf=>by
  have I:a.eval x= .int k m:=d7.1 (V S a hf);have M:a.eval y= .int k n:=d7.1 (hy S a hf);refine⟨.int k (if n<m then n else m),by simp [execOp,resolve,invoke,builtin,Builtin.min_,Builtin.min2,I,M],d7.2 ?_⟩;congr 1;rw [Int.min_def];split<;>split<;>omega
def eD(P:Program){α β:Type}(args:α->List Ty)(res:β->Ty)(f:α->Option β):Ty where
 p:=fun S v=> ∃fid cap,v= .func (.func fid) #[] cap/\ak P fid=true/\ ∀x y,f x=some y-> ∀w S' vs,SH.le S S' ->nC w S' ->B5 S' (args x) vs->
  Calls P fid (vs.toArray++cap) w fun e w' => ∃v S'',e= .returned v/\kh vz w S' w' S'' /\nC w' S'' /\(res y).p S'' v
 mono:=fun h ⟨f,cap,e,hc,k⟩=>⟨f,cap,e,hc,fun x y hxy w S' vs hle=>k x y hxy w S' vs (SH.le_trans h hle)⟩
def A3{N:Fr}{P:Program}{f:α->Option β}{fid:FuncId}(hc:ak P fid=true)(hs: ∀x y,f x=some y->bZ P fid (args x) (res y)):be N G (.func fid) (eD P args res f):=fun S a _=>
 ⟨fid,#[],rfl,hc,fun x y h w S' vs _ hsat hv=>by simpa using hs x y h w S' vs hsat hv⟩
def B5.append: ∀{ts us:List Ty} {vs ws:List Value},B5 S ts vs->B5 S us ws->B5 S (ts++us) (vs++ws)
 |[],_,[],_,_,h=>h
 |_::_,_,_::_,_,⟨I,M⟩,h=>⟨I,B5.append M h⟩
def kN{f:α->Option β}{fid:FuncId}{caps:List Operand}{cts:List Ty}(hc:ak E.P fid=true)(hcap:lI E.N G caps cts)(hs: ∀x y,f x=some y->bZ E.P fid (args x++cts) (res y)):cu E O G ⟨dst,.makeFunc (.func fid) #[] caps.toArray,ty,pos,after,g⟩ (eD E.P args res f):=
 .of_pure fun a w S _ _ hf=>by
  refine⟨.func (.func fid) #[] (caps.map a.eval).toArray,by simp [execOp,Instr.makeFunc],fid,_,rfl,hc,fun x y h w' S' vs hle hsat hv=>?_⟩;have hcv:=(hcap.tys hf).mono hle;simpa using hs x y h w' S' _ hsat (hv.append hcv)
def hZ{f:α->Option β}{fo:Operand}{x:α}{y:β}{xs:List Operand}(hfo:be E.N G fo (eD E.P args res f))(h:f x=some y)(V:lI E.N G xs (args x)):
  cu E O G ⟨dst,.call ⟨.value fo,xs.toArray,ats⟩,ty,pos,after,g⟩ (res y):=fun a w S hS _ hF=>by
 obtain⟨fid,cap,e,hc,hs⟩:=hfo S a hF;have hr:(execOp a.eval ⟨dst,.call ⟨.value fo,xs.toArray,ats⟩,ty,pos,after,g⟩).run E.P w= .ok (.enter fid ((xs.map a.eval).toArray++cap)) w:=by
  simp [execOp,resolve,e,Deferred.ofValue,invoke,gC hc]
 refine⟨fun c h=>(by cases h),?_⟩;rw [hr];exact(hs x y h w S _ (SH.le_refl _) hS (V.tys hF)).mono fun e w' ⟨v,S',he,I,M,h3⟩=>⟨v,he,v,S',rfl,I,M,h3⟩
end
def bZ.of{P:Program}{N:Nat}(hf:P.funcs[f]? =some fn)(H:fn.body=some c)(hN:fn.ntmps=N)(hn:Nat.ble ts.length N=true)(h: ∀w0 S0,CG ⟨P,⟨N,[]⟩,vz,w0,S0,none⟩ (bodyPost P fn (Tb ⟨P,⟨N,[]⟩,vz,w0,S0,none⟩ t)) c [] (xH 0 ts)):bZ P f ts t:=by
 subst hN;exact QU hf H (ve hn) h
def nn{α:Type _}{r:α}(h:(none:Option α)=some r):False:=by cases h
def tK{N:Fr}:be N G (.const (.slice none 0 0)) (tV (aY none 0 0)):=fun _ _ _=>rfl
def jl:Nat:=2^64
section
variable{E:En}{ty:TypeId}
def UB(l:Option Nat)(cap n:Nat)(h:l=none->n=0): ∃a c,aY l cap n= .slice a n c:=by
 cases l with
 |none=>rw [h rfl];exact⟨none,0,rfl⟩
 |some b=>exact⟨_,cap,rfl⟩
def fJ{r:Rp α}{n:Nat}{t:TypeId}(J:E.P.underlying t=some (.slice e))(hm:pw mm r aj l cap xs∈O)(V:be E.N G x (tV (aY l cap n)))(hn:n=xs.length:=by rfl):
  cu E O G ⟨dst,.call ⟨.builtin .len,#[x],#[t]⟩,ty,pos,after,g⟩ (Q (rI .i64) (n:Int)):=
 .of_pure fun a w S _ ho hf=>by
  have I:a.eval x=aY l cap n:=V S a hf;have M:=(ho.mem _ hm).1;obtain⟨ad,c,h3⟩:=UB l cap n (fun e=>by subst e;obtain⟨_,h4,_⟩:=M;rw [hn];exact h4.1);refine⟨.int .i64 n,?_,d7.2 rfl⟩;simp [execOp,resolve,invoke,builtin,Builtin.len_,oS J,I,h3,goInt]
end
structure Zc(P:Program){α:Type} [DecidableEq α](t:TypeId)(r:Rp α):Prop where
 guard:P.eqGuardType P.depth t=false
 run: ∀(S:SH) (cs ds:List Value) (x y:α) (d:Nat) (w:World),r.rc S cs x->r.rc S ds y->(Op.equalIn (d+20) t (r.val cs) (r.val ds)).run P w= .ok (decide (x=y)) w
section
variable{E:En}{ty:TypeId}
def Jc{P:Program}{t:TypeId}(h:P.eqGuardType P.depth t=false){op:BinOp}{x y:Operand}{u v:Array Value}{w:World}:(eqGuard op t x y (.agg u) (.agg v)).run P w= .ok () w:=by
 unfold eqGuard;cases op<;>first|rfl|simp [h]
def xK{r:Rp α}(h:r.agg=true)(cs:List Value):r.val cs= .agg cs.toArray:=by unfold Rp.val;rw [bz h]
def Gx [DecidableEq α]{r:Rp α}{m n:α}(he:Zc E.P xt r)(V:be E.N G x (Q r m))(hy:be E.N G y (Q r n))(ha:r.agg=true:=by rfl):cu E O G ⟨dst,.binOp .eql xt x y yt,ty,pos,after,g⟩ (Q rB (decide (m=n))):=
 .of_pure fun a w S _ _ hf=>by
  obtain⟨cs,I,M⟩:=V S a hf;obtain⟨ds,h3,h4⟩:=hy S a hf;refine⟨.bool (decide (m=n)),?_,kY.2 rfl⟩;have hr:=he.run S cs ds m n 9980 w M h4;have hg:= @Jc E.P xt he.guard .eql x y cs.toArray ds.toArray w;rw [xK ha,xK ha]at hr;simp only [execOp,I,h3,xK ha,Ak,hg,B8,binOp,Op.equal,Op.maxDepth];rw [show(10000:Nat)=9980+20 from rfl,hr];simp
def Dx [DecidableEq α]{r:Rp α}{m n:α}(he:Zc E.P xt r)(V:be E.N G x (Q r m))(hy:be E.N G y (Q r n))(ha:r.agg=true:=by rfl):cu E O G ⟨dst,.binOp .neq xt x y yt,ty,pos,after,g⟩ (Q rB (!decide (m=n))):=
 .of_pure fun a w S _ _ hf=>by
  obtain⟨cs,I,M⟩:=V S a hf;obtain⟨ds,h3,h4⟩:=hy S a hf;refine⟨.bool (!decide (m=n)),?_,kY.2 rfl⟩;have hr:=he.run S cs ds m n 9980 w M h4;have hg:= @Jc E.P xt he.guard .neq x y cs.toArray ds.toArray w;rw [xK ha,xK ha]at hr;simp only [execOp,I,h3,xK ha,Ak,hg,B8,binOp,Op.equal,Op.maxDepth];rw [show(10000:Nat)=9980+20 from rfl,hr];simp
end
def vy{base:Nat}{B:Nat->Prop}(h:dW base B w S O)(k:kh vz w S w' S'){e:OE}(he:e.p w' S')(hn: ∀b,e.fp b->w.heap.size<=b)(H:base<=w.heap.size:=by first|assumption|exact St.base_le (by assumption)):dW base B w' S' (e::O):=
 ⟨⟨he,fun b hb' => .inl (wP H (hn b hb'))⟩,fun f hf b hb' hfb=>by
  have:=f.here (dW.mem h f hf).1 b hfb;have:=hn b hb';omega,h.ext0 k⟩
def fE(P:Program)(f:FuncId)(ts:List Ty)(mm:Bool){α:Type}(r:Rp α)(aj:TypeId)(xs:List α):Prop:=
 ∀w S vs,nC w S->B5 S ts vs->Calls P f vs.toArray w fun e w' => ∃l cap S',e= .returned (aY l cap xs.length)/\kh vz w S w' S' /\nC w' S' /\(pw mm r aj l cap xs).holds w.heap.size vz w' S'
def Ui{r:Rp α}(h:(pw mm r aj l cap xs).holds w.heap.size vz w' S')(he:kh vz w S w' S')(hs:nC w' S'):
  ∃S'',kh vz w S w' S'' /\nC w' S'' /\(Q (gM r) xs).p S'' (aY l cap xs.length):=by
 have st:St ⟨default,⟨0,[]⟩,vz,w,S,none⟩ [pw mm r aj l cap xs] [] ⟨#[],[]⟩ w' S' :=⟨he,hs,⟨h,fun _ hf=>(by cases hf),trivial⟩,⟨rfl,rfl,fun _ _ h=>(by simp [cH]at h)⟩⟩;obtain⟨S'',I,M⟩:=st.settle;exact⟨S'',I.ext,I.sat,M⟩
def fE.spec{P:Program}{r:Rp α}(h:fE P f ts mm r aj xs):bZ P f ts (Q (gM r) xs):=fun w S vs hs hv=>
 (h w S vs hs hv).mono fun e w' ⟨l,cap,S',he,I,M,h3⟩=>by
  obtain⟨S'',h4,h5,h6⟩:=Ui h3 I M;exact⟨_,S'',he,h4,h5,h6⟩
def ajm(E:En)(mm:Bool){α:Type}(r:Rp α)(aj:TypeId)(xs:List α):Ending->World->Prop:=fun e w' => ∃l cap S',e= .returned (aY l cap xs.length)/\kh E.B E.w0 E.S0 w' S' /\nC w' S' /\(pw mm r aj l cap xs).holds E.w0.heap.size E.B w' S'
def fE.of{P:Program}{N:Nat}{r:Rp α}(hf:P.funcs[f]? =some fn)(H:fn.body=some c)(hN:fn.ntmps=N)(hn:Nat.ble ts.length N=true)(h: ∀w0 S0,CG ⟨P,⟨N,[]⟩,vz,w0,S0,none⟩ (bodyPost P fn (ajm ⟨P,⟨N,[]⟩,vz,w0,S0,none⟩ mm r aj xs)) c [] (xH 0 ts)):fE P f ts mm r aj xs:=by
 subst hN;intro w S vs hs hv;exact ny.1 (Kk (F:=fw none) (n:=0) hf H trivial (h w S _ w S ⟨kh.refl _ _ _,hs,trivial,qI hv _ (ve hn)⟩))
section
variable{E:En}
def fP{P:Program}{N:Nat}{B:Nat->Prop}{w0:World}{S0:SH}{r:Rp α}{n:Nat}(hr:fn.results= #[.tmp k])(hk:cH G k=some (tV (aY l cap n)))(hn:n=xs.length:=by rfl):
  AT ⟨P,⟨N,[]⟩,B,w0,S0,none⟩ (bodyPost P fn (ajm ⟨P,⟨N,[]⟩,B,w0,S0,none⟩ mm r aj xs)) .ret (pw mm r aj l cap xs::O) G:=fun a w S st=>by
 subst hn;have hv:a.tmps.getD k undef=aY l cap xs.length:=st.facts.at_ k _ hk;exact⟨st.facts.defers,_,qU P fn k hr _ _,l,cap,S,by rw [hv],st.ext,st.sat,st.own.1⟩
section
variable{ty:TypeId}
def YU{xs:List Operand}{r:Rp α}{u:Nat->Option Nat->Ty}(hc:ak E.P f=true)(hs:fE E.P f ts mm r aj ys)(V:lI E.N G xs ts)(hd:Nat.blt d E.N.n=true)(hu: ∀l cap w0 S,(pw mm r aj l cap ys).p w0 S->(u cap l).p S (aY l cap ys.length))(k: ∀l cap,RG E ops tD rest (pw mm r aj l cap ys::O) ((d,u cap l)::G)):
  RG E ops tD (⟨some d,.call ⟨.value (.func f),xs.toArray,ats⟩,ty,pos,after,none⟩::rest) O G:= .of rfl fun a w S st=>by
 have hr:(execOp a.eval ⟨some d,.call ⟨.value (.func f),xs.toArray,ats⟩,ty,pos,after,none⟩).run E.P w= .ok (.enter f (xs.map a.eval).toArray) w:=by
  simp [execOp,resolve,Act.eval,Deferred.ofValue,invoke,gC hc]
 refine⟨fun c h=>(by cases h),?_⟩;rw [hr];refine(hs w S _ st.sat (V.tys st.facts)).mono fun e w' ⟨l,cap,S',he,I,M,h3⟩=>⟨_,he,?_⟩;refine k l cap _ _ S' ⟨st.ext.step0 I,M,vy st.own I h3.1 (fun b H=>(h3.2 b H).resolve_right id) st.base_le,(st.facts.mono I.keep).put hd (hu l cap w' S' h3.1)⟩
def abH{xs:List Operand}{r:Rp α}(hc:ak E.P f=true)(hs:fE E.P f ts false r aj ys)(V:lI E.N G xs ts)(hd:Nat.blt d E.N.n=true)(k: ∀l cap,RG E ops tD rest (eV r aj l cap ys::O) ((d,tV (aY l cap ys.length))::G)):
  RG E ops tD (⟨some d,.call ⟨.value (.func f),xs.toArray,ats⟩,ty,pos,after,none⟩::rest) O G:=YU (u:=fun cap l=>tV (aY l cap ys.length)) hc hs V hd (fun _ _ _ _ _=>rfl) k
def fF{r:Rp α}{xs:List Operand}{t:TypeId}{n sz:Nat}{agg:Bool}(J:E.P.underlying t=some (.slice aj))(ti:TI E.P aj sz bytes agg z)(hsz:r.sz=sz)(h0:Nat.blt 0 sz=true)(hp:parts=EM 0 xs)(hn:n=ys.length)(H:Nat.ble (n*sz) 16777216=true)(V:lI E.N G xs (ys.map (Q r)))(hd:Nat.blt d E.N.n=true)(k: ∀l cap,RG E ops tD rest (eV r aj l cap ys::O) ((d,tV (aY l cap ys.length))::G)):
  RG E ops tD (⟨some d,.buildSlice t n parts.toArray,ty,pos,after,none⟩::rest) O G:= .of rfl fun a w S st=>by
 obtain⟨cs,hc,hr⟩:=CC J ti hsz hn H (V.tys st.facts) w;subst hsz;subst hp;have hb' :=ve H;have h0' :0<r.sz:=by simpa [Aq] using h0
 have hnle:n<=n*r.sz:=Nat.le_mul_of_pos_right n h0';have hcl:=s7 hc;obtain⟨he,hs',hno⟩:=jy (w:=w) (.cells cs.toArray aj (0,0)) st.sat;have hrun:(execOp a.eval ⟨some d,.buildSlice t n (EM 0 xs).toArray,ty,pos,after,none⟩).run E.P w= .ok (.value (.slice (some ⟨w.heap.size,0,none⟩) n n)) (w.alloc (.cells cs.toArray aj (0,0))):=by
  simp only [execOp,Ak,hr,B8,Sem.run_pure]
 refine⟨fun c h=>(by cases h),?_⟩;rw [hrun];refine k (some w.heap.size) n _ _ S ⟨st.ext.step0 he,hs',vy st.own he ⟨cs,⟨cs.toArray,Ck w _,by omega,by simp only [maxLen];omega,by simp [hcl,hn],by simp [<-hcl]⟩,hc,fun b H=>by rw [<-vc H];exact hno⟩ (fun b H=>FU (vc H)) st.base_le,st.facts.put hd ?_⟩
 ·show _=aY _ _ _;rw [<-hn];rfl
def zg{r:Rp α}{t:TypeId}(J:E.P.underlying t=some (.slice e))(V:be E.N G x (Q (gM r) xs))(hd:Nat.blt d E.N.n=true)(k: ∀b,(b=true->xs=[])->RG E ops tD rest O ((d,Q rB b)::G)):RG E ops tD (⟨some d,.binOp .eql t x (.const (.slice none 0 0)) yt,ty,pos,after,none⟩::rest) O G:= .of rfl fun a w S st=>by
 obtain⟨ad,cap,I,_,_,M⟩:=rC.1 (V S a st.facts);have hrun:(execOp a.eval ⟨some d,.binOp .eql t x (.const (.slice none 0 0)) yt,ty,pos,after,none⟩).run E.P w= .ok (.value (.bool ad.isNone)) w:=by
  have h3:(Op.equal t (.slice ad xs.length cap) (.slice none 0 0)).run E.P w= .ok ad.isNone w:=Bh fun d=>by
   cases ad<;>simp [Op.equalIn,oS J]
  have hcn:a.eval (.const (.slice none 0 0))= .slice none 0 0:=rfl;simp [execOp,I,hcn,eqGuard,binOp,h3]
 refine⟨fun c h=>(by cases h),?_⟩;rw [hrun];refine k ad.isNone (fun e=>?_) _ _ S (st.step (kh.refl _ _ _) st.sat hd (kY.2 rfl));rcases M with M|⟨b,off,c,aj,fr,e1,_⟩
 ·exact M
 ·subst e1;cases e
end
end
def aE(b off:Nat):Value:= .pointer (some ⟨b,off,none⟩)
def bx{α:Type}(r:Rp α)(aj:TypeId)(b:Nat)(x:α):OE where
 fp:=fun k=>k=b
 p:=fun w S=>S b=none/\ ∃c,w.heap[b]? =some (.cells c aj (0,0))/\r.rc S c.toList x
 here:=by
  intro w S h k hk;subst hk;obtain⟨I,c,M,_⟩:=h;exact(Ba.1 M).1
 kept:=by
  intro C w w' S S' h k hC;obtain⟨I,c,M,h3⟩:=h;have hlt:=(Ba.1 M).1;exact⟨by rw [k.old b hlt (hC b rfl)];exact I,c,by rw [k.heap b hlt (hC b rfl)];exact M,r.mono k.keep h3⟩
def rV:Rp Value where
 sz:=1
 agg:=false
 rc:=fun _ cs v=>cs=[v]/\v.oneCell' =true
 mono:=fun _ h=>h
 len:=fun h=>by rw [h.1];rfl
 one:=fun h c hc=>by rw [h.1]at hc;simp at hc;subst hc;exact h.2
 sc:=fun _=>rfl
def xN{u:Value}:(Q rV u).p S v↔v=u/\u.oneCell' =true:=by
 constructor
 ·rintro⟨cs,rfl,I,M⟩;subst I;exact⟨rfl,M⟩
 ·rintro⟨rfl,h⟩;exact⟨[v],rfl,rfl,h⟩
def k7{α β:Type}(r:Rp α)(off:Nat)(q:Rp β)(set:α->β->α):Prop:= ∀S cs x ds y,r.rc S cs x->q.rc S ds y->r.rc S (cs.take off++ds++cs.drop (off+q.sz)) (set x y)
section
variable{E:En}{e:Exit}
def St.settleB{r:Rp α}{b:Nat}{x:α}(h:St E (bx r aj b x::O) G a w S)(hk:cH G k=some (tV (aE b 0))): ∃S',St E O ((k,bH r x)::G) a w S' :=by
 obtain⟨⟨hn,cur,h3,h4⟩,_⟩:=h.own.1;obtain⟨h8,hle,_,_⟩:=Bg h rfl h3 (yX _) hn;have hv:a.tmps.getD k undef=aE b 0:=h.facts.at_ k _ hk;refine⟨_,h8.cons ⟨b,0,cur,aj,(0,0),hv,by simp [SH.set],?_⟩⟩;have hl:cur.size=r.sz:=by have:=r.len h4;simpa using this
 have:=r.mono hle h4;rw [xu,rO (by simp [hl])];exact this
def aA{r:Rp α}{b:Nat}{x:α}(k:Nat)(hk:cH G k=some (tV (aE b 0)))(h:RG E ops tD rest O ((k,bH r x)::G)):RG E ops tD rest (bx r aj b x::O) G:=
 fun a w _ st=>let⟨S',st'⟩:=st.settleB hk;h a w S' st'
def aF{r:Rp α}{b:Nat}{x:α}(k:Nat)(hk:cH G k=some (tV (aE b 0)))(h:AT E tD e O ((k,bH r x)::G)):AT E tD e (bx r aj b x::O) G:=
 fun a w _ st=>let⟨S',st'⟩:=st.settleB hk;h a w S' st'
section
variable{ty:TypeId}
def ax{r:Rp α}{x:α}{sz:Nat}{agg:Bool}(ti:TI E.P aj sz bytes agg z)(V: ∀S,r.rc S z x)(hd:Nat.blt d E.N.n=true)(k: ∀b,RG E ops tD rest (bx r aj b x::O) ((d,tV (aE b 0))::G)):RG E ops tD (⟨some d,.alloc aj,ty,pos,after,none⟩::rest) O G:= .of rfl fun a w S st=>by
 obtain⟨zv,hzr,hzc⟩:=ti.zero w;obtain⟨he,hs',hno⟩:=jy (w:=w) (.cells z.toArray aj (0,0)) st.sat;have hrun:(execOp a.eval ⟨some d,.alloc aj,ty,pos,after,none⟩).run E.P w= .ok (.value (aE w.heap.size 0)) (w.alloc (.cells z.toArray aj (0,0))):=by
  simp [execOp,Instr.alloc,hzr,newVar,newRow,hzc,aE]
 refine⟨fun c h=>(by cases h),?_⟩;rw [hrun];exact k w.heap.size _ _ S ⟨st.ext.step0 he,hs',vy st.own he ⟨hno,z.toArray,Ck w _,by simpa using V S⟩ (fun b H=>FU H.symm) st.base_le,st.facts.put hd rfl⟩
def wL{r:Rp α}{v:α}(V:be E.N G x (Q r v))(hd:Nat.blt d E.N.n=true)(k: ∀b,RG E ops tD rest (bx r aj b v::O) ((d,tV (aE b 0))::G)):RG E ops tD (⟨some d,.box aj x,ty,pos,after,none⟩::rest) O G:= .of rfl fun a w S st=>by
 obtain⟨cs,hv,hc⟩:=V S a st.facts;obtain⟨he,hs',hno⟩:=jy (w:=w) (.cells cs.toArray aj (0,0)) st.sat;have hrun:(execOp a.eval ⟨some d,.box aj x,ty,pos,after,none⟩).run E.P w= .ok (.value (aE w.heap.size 0)) (w.alloc (.cells cs.toArray aj (0,0))):=by
  simp [execOp,Instr.box,newVar,newRow,hv,Av hc,aE]
 refine⟨fun c h=>(by cases h),?_⟩;rw [hrun];exact k w.heap.size _ _ S ⟨st.ext.step0 he,hs',vy st.own he ⟨hno,cs.toArray,Ck w _,by simpa using hc⟩ (fun b H=>FU H.symm) st.base_le,st.facts.put hd rfl⟩
def uK{base:Nat}{B:Nat->Prop}{b:Nat}(hs:nC w S)(f f' :OE)(h:dW base B w S (f::O))(hf: ∀k,f.fp k↔k=b)(hf' : ∀k,f'.fp k↔k=b)(hg:w'.os=w.os/\w'.tape=w.tape/\w'.output=w.output/\w'.heap.size=w.heap.size/\w.drawn<=w'.drawn)(ho: ∀k,k≠b->w'.heap[k]? =w.heap[k]?)(hp:f'.p w' S)(hno:S b=none):kh (fun k=>k=b) w S w' S/\nC w' S/\dW base B w' S (f' ::O):=by
 have hext:kh (fun k=>k=b) w S w' S:=⟨hg.1,hg.2.1,hg.2.2.1,hg.2.2.2.2,by omega,fun k _ hk=>ho k hk,SH.le_refl _,fun _ _ _=>rfl⟩;refine⟨hext,hs.same fun k o hk=>?_,⟨hp,fun k hk=>h.1.2 k ((hf k).2 ((hf' k).1 hk))⟩,fun g hgm k hk=>h.2.1 g hgm k ((hf k).2 ((hf' k).1 hk)),h.2.2.ext hext fun g hgm k hk hkb=>h.2.1 g hgm k ((hf k).2 hkb) hk⟩;have hne:k≠b:=fun e=>by subst e;rw [hno]at hk;cases hk
 exact ho k hne
def nq{P:Program}{q:Rp α}{sz:Nat}{agg:Bool}(ti:TI P U sz bytes agg z)(hsz:q.sz=sz){ds:List Value}{y:α}(hy:q.rc S ds y){b:Nat}{cur:Array Value}(hg:w.heap[b]? =some (.cells cur aj (0,0)))(hfit:off+q.sz<=cur.size):
  ∃w',(storeVar U ⟨b,off,none⟩ (q.val ds)).run P w= .ok () w' /\w'.os=w.os/\w'.tape=w.tape/\w'.output=w.output/\(w'.heap.size=w.heap.size/\w.drawn<=w'.drawn)/\w'.heap[b]? =some (.cells (cur.toList.take off++ds++cur.toList.drop (off+q.sz)).toArray aj (0,0))/\ ∀k,k≠b->w'.heap[k]? =w.heap[k]? :=by
 have hl:=q.len hy;have hst:=run_storeCells_at P b off aj ds 0 cur w hg (by omega) (q.one hy);simp only [vY]at hst;refine⟨w.setRow b (cur.toList.take off++ds++cur.toList.drop (off+ds.length)).toArray,?_,rfl,rfl,rfl,⟨?_,kG _⟩,?_,fun k hk=>setRow_other w b k _ hk⟩
 ·generalize (cur.toList.take off++ds++cur.toList.drop (off+ds.length)).toArray=X at hst ⊢;simp only [storeVar,Ak,ti.sizeOf,B8,Av hy,NT,hl,hsz];simp only [ne_eq,Rg,gT];simpa using hst
 ·simp [World.setRow]
 ·rw [setRow_heap w b cur _ aj _ hg,<-hl]
def dc{r:Rp α}{set:α->β->α}{x:α}{y:β}{b sz:Nat}{agg:Bool}{p v:Operand}(ti:TI E.P U sz bytes agg z)(hsz:q.sz=sz)(hset:k7 r off q set)(hoff:Nat.ble (off+q.sz) r.sz=true)(hp:be E.N G p (tV (aE b off)))(hv:be E.N G v (Q q y))(k:RG E ops tD rest (bx r aj b (set x y)::O) G):RG E ops tD (⟨none,.store U p v,ty,pos,after,none⟩::rest) (bx r aj b x::O) G:= .of rfl fun a w S st=>by
 have I:a.eval p=aE b off:=hp S a st.facts;obtain⟨ds,M,h3⟩:=hv S a st.facts;obtain⟨⟨hno,cur,h5,h6⟩,_⟩:=st.own.1;have hl:=r.len h6;have hoff' :=ve hoff;obtain⟨w',hr,e1,e2,e3,e4,e5,e6⟩:=nq ti hsz h3 h5 (off:=off) (by simp at hl;omega);have hrun:(execOp a.eval ⟨none,.store U p v,ty,pos,after,none⟩).run E.P w= .ok .skip w' :=by
  simp [execOp,I,M,Instr.storeAt,aE,Instr.sureAddr,hr]
 refine⟨fun c h=>(by cases h),?_⟩;rw [hrun];obtain⟨g1,g2,g3⟩:=uK (O:=O) st.sat (bx r aj b x) (bx r aj b (set x y)) st.own (fun _=>Ap) (fun _=>Ap) ⟨e1,e2,e3,e4.1,e4.2⟩ e6 ⟨hno,_,e5,by simpa using hset S _ _ _ _ h6 h3⟩ hno;exact k _ _ S ⟨st.ext.step g1 (fun c hc=>st.own.1.2 c hc),g2,g3,st.facts⟩
def af{r:Rp α}:k7 r 0 r (fun _ y=>y):=fun S cs x ds y I M=>by
 have hl:=r.len I;simpa [<-hl] using M
end
section
variable{ty:TypeId}
def Nx{sz b o:Nat}{p:Operand}(hf:dv E.P aj i=some (off,sz))(h0:Nat.beq sz 0=false)(hp:be E.N G p (tV (aE b o))):cu E O G ⟨dst,.fieldAddr aj p i,ty,pos,after,g⟩ (tV (aE b (o+off))):=
 .of_pure fun a w S _ _ hF=>by
  have I:a.eval p=aE b o:=hp S a hF;obtain⟨fs,f,e1,e2,e3,e4⟩:=Hu hf;have h0' :sz≠0:=fun e=>by subst e;simp at h0
  refine⟨aE b (o+off),?_,rfl⟩;simp [execOp,I,aE,Instr.fieldAt,oS e1,e2,Instr.sureAddr,fieldPlace,e4,h0',e3,nf]
def bP{r:Rp α}{get:α->β}{x:α}{b sz:Nat}{agg:Bool}{p:Operand}(ti:TI E.P U sz bytes agg z)(hsz:q.sz=sz)(hag:q.agg=agg)(hget:ro r off q get)(hm:bx r aj b x∈O)(hp:be E.N G p (tV (aE b off))):
  cu E O G ⟨dst,.load U p,ty,pos,after,g⟩ (Q q (get x)):=
 .of_pure fun a w S _ ho hf=>by
  have I:a.eval p=aE b off:=hp S a hf;obtain⟨⟨_,cur,h5,h6⟩,_⟩:=ho.mem _ hm;have h7:=hget S _ _ h6;refine⟨_,?_,_,rfl,h7⟩;simp [execOp,I,aE,Instr.loadAt,Instr.sureAddr,oD ti h5 hsz hag h7]
def bT{r:Rp α}:ro r 0 r (fun x=>x):=fun S cs x h=>by
 have hl:=r.len h;simpa [<-hl] using h
end
end
def gB{p:Rp α}:k7 (dD p q) 0 p (fun x y=>(y,x.2)):=fun S cs x ds y h k=>by
 obtain⟨a,b,e,I,M⟩:=h;have hl:=p.len I;refine⟨ds,b,?_,k,M⟩;rw [e,<-hl];simp
def bp{p:Rp α}{s:Rp γ}{off' :Nat}{u:β->γ->β}(h:k7 q off s u)(ho:off' =p.sz+off):k7 (dD p q) off' s (fun x y=>(x.1,u x.2 y)):=fun S cs x ds y V hy=>by
 obtain⟨a,b,e,I,M⟩:=V;have hl:=p.len I;refine⟨a,b.take off++ds++b.drop (off+s.sz),?_,I,h S b x.2 ds y M hy⟩;rw [e,ho,<-hl,List.take_length_add_append,show a.length+off+s.sz=a.length+(off+s.sz)from by omega,List.drop_length_add_append];simp
def dI{p:Rp α}{q:Rp γ}{u:α->γ->α}{f:β->α}{set:β->γ->β}(h:k7 p off q u)(hf: ∀x y,f (set x y)=u (f x) y):k7 (sr p f) off q set:=fun S cs x ds y V hy=>by
 show p.rc S _ (f (set x y));rw [hf];exact h S cs (f x) ds y V hy
def sG(P:Program)(aj:TypeId):Option (List (Nat×Nat)):=
 match P.underlying aj with
 |some (.struct fs)=>fs.toList.mapM fun f=>(P.info? f.type).map fun q=>(f.offset,q.size)
 |_=>none
def Lf{P:Program}: ∀(fs:List Field) (ps:List (Nat×Nat)) (w:World),fs.mapM (fun f=>(P.info? f.type).map fun q=>(f.offset,q.size))=some ps->
  (fs.mapM (fun f=>do pure (f.offset,<-sizeOf f.type):Field->Sem (Nat×Nat))).run P w= .ok ps w
 |[],ps,w,h=>by
  simp at h;subst h;simp
 |f::fs,ps,w,h=>by
  simp only [List.mapM_cons]at h ⊢
  cases hq:P.info? f.type with
  |none=>simp [hq]at h
  |some q=>
   cases hr:fs.mapM (fun f=>(P.info? f.type).map fun q=>(f.offset,q.size))with
   |none=>simp [hq,hr]at h
   |some qs=>
    simp [hq,hr]at h;subst h;have ih:=Lf fs qs w hr;simp [sizeOf,typeInfo,hq]at ih ⊢;simp [ih]
section
variable{E:En}{ty:TypeId}
def BP(E:En)(G:pC){α:Type}(r:Rp α)(ps:List (Nat×Nat)):α->List (Nat×Operand)->α->Prop
 |x,[],y=>x=y
 |x,(i,o)::rest,y=> ∃(β:Type) (q:Rp β) (set:α->β->α) (off:Nat) (v:β),ps[i]? =some (off,q.sz)/\k7 r off q set/\Nat.ble (off+q.sz) r.sz=true/\be E.N G o (Q q v)/\BP E G r ps (set x v) rest y
def Mh{α:Type}{r:Rp α}{ps:List (Nat×Nat)}{S:SH}{a:Act}(hF:du E.N S a G): ∀(parts:List (Nat×Operand)) (x y:α) (cs:List Value),BP E G r ps x parts y->r.rc S cs x->
  ∃ds,r.rc S ds y/\Instr.fill (ps.toArray[·]?) cs.toArray (parts.map fun p=>(p.1,a.eval p.2))=some ds.toArray
 |[],x,y,cs,h,V=>by
  have e:x=y:=h;subst e;exact⟨cs,V,rfl⟩
 |(i,o)::rest,x,y,cs,⟨β,q,set,off,v,I,M,h3,h4,h5⟩,V=>by
  obtain⟨c,hv,hc⟩:=h4 S a hF;have hl:=q.len hc;have hlr:=r.len V;have h3' :=ve h3;have hcells:(a.eval o).cells=c.toArray:=by rw [hv];exact Av hc
  obtain⟨ds,h6,h7⟩:=Mh hF rest _ y _ h5 (M S cs x c v V hc);refine⟨ds,h6,?_⟩;have hps:ps.toArray[i]? =some (off,q.sz):=by simpa using I
  have hs:(a.eval o).cells.size=q.sz:=by rw [hcells];simpa using hl
  have h8:=Gh (a.eval o) off (cs.take off) ((cs.drop off).take q.sz) (cs.drop (off+q.sz)) (by rw [hs];simp;omega) (by simp;omega);have e1:cs.take off++(cs.drop off).take q.sz++cs.drop (off+q.sz)=cs:=by
   rw [mj,<-uf,A8,A8]
  rw [e1]at h8;simp only [va,Instr.fill,hps];rw [aR (by simp [hs,hlr];omega),h8,hcells];simpa using h7
def bW{r:Rp α}{x y:α}{ps:List (Nat×Nat)}{sz:Nat}{agg:Bool}(ti:TI E.P aj sz bytes agg z)(hp:sG E.P aj=some ps)(hz: ∀S,r.rc S z x)(H:BP E G r ps x parts y)(ha:r.agg=true:=by rfl):
  cu E O G ⟨dst,.build aj parts.toArray,ty,pos,after,g⟩ (Q r y):=
 .of_pure fun a w S _ _ hF=>by
  obtain⟨zv,hzr,hzc⟩:=ti.zero w;obtain⟨ds,I,M⟩:=Mh hF parts x y z H (hz S);unfold sG at hp;split at hp
  ·rename_i fs hu;have hpl:=Lf fs.toList ps w hp;have hpl2:(fs.mapM (fun f=>do pure (f.offset,<-sizeOf f.type):Field->Sem (Nat×Nat))).run E.P w= .ok ps.toArray w:=by
    have hfs:fs=fs.toList.toArray:=by simp
    generalize fs.toList=l at hfs hpl;subst hfs;rw [List.mapM_toArray,Sem.run_map,hpl];rfl
   refine⟨.agg ds.toArray,?_,ds,(xK ha ds).symm,I⟩;simp only [execOp,Instr.build,Ak,hzr,B8,oS hu,hpl2,hzc];have hm:(parts.toArray.map fun(i,x)=>(i,a.eval x)).toList=parts.map fun p=>(p.1,a.eval p.2):=by simp
   rw [hm,M];simp
  ·cases hp
end
section
def iM{P:Program}{N:Nat}{B:Nat->Prop}{w0:World}{S0:SH}{r:Rp α}{x:α}{sz:Nat}{agg:Bool}(hr:fn.results= #[.cell k aj])(ti:TI P aj sz bytes agg z)(hsz:r.sz=sz)(hag:r.agg=agg)(hk:cH G k=some (bH r x)):
  AT ⟨P,⟨N,[]⟩,B,w0,S0,none⟩ (bodyPost P fn (Tb ⟨P,⟨N,[]⟩,B,w0,S0,none⟩ (Q r x))) .ret O G:=fun a w S st=>by
 obtain⟨b,off,c,U,fr,I,M,h3⟩:=st.facts.at_ k _ hk;obtain⟨c',h4,h5⟩:=st.sat.part M (r.len h3);rw [<-h5]at h3;refine⟨st.facts.defers,r.val ((c'.toList.drop off).take r.sz),?_,_,S,rfl,st.ext,st.sat,_,rfl,h3⟩;have hl:=oD ti h4 hsz hag h3;have h1' :a.tmps[k]?.getD undef=Value.pointer (some ⟨b,off,none⟩):=by simpa [Rd] using I
 simp [results,hr,h1',asAddr,hl]
end
def zC(L:List Oper):Nat->Nat->Nat->Bool
 |0,_,_=>false
 |n+1,i,j=>match L[i]? with
  |some o=>o.after.toList.any fun e=>Region.binds .any e&&(Nat.beq e.on j||zC L n e.on j)
  |none=>false
def Mw(L:List Oper)(m:Nat):Bool:=(List.range m).all fun j=>zC L L.length m j
def VL(L:List Oper)(n k:Nat):Bool:=(List.range k).all fun m=>Mw L (n+m)&&(match L[n+m]? with|some o=>jZ (n+m) o&&o.guard.isNone|none=>false)
def qw{L:List Oper}{done:Array Bool}(down: ∀j o,L[j]? =some o->done.getD j false=true-> ∀e∈o.after,Region.binds .any e=true->done.getD e.on false=true):
  ∀(n i j:Nat),(∀o,L[i]? =some o-> ∀e∈o.after,Region.binds .any e=true->done.getD e.on false=true)->zC L n i j=true->done.getD j false=true
 |0,_,_,_,h=>by cases h
 |n+1,i,j,hi,h=>by
  unfold zC at h
  cases ho:L[i]? with
  |none=>rw [ho]at h;cases h
  |some o=>
   rw [ho]at h;obtain⟨e,he0,H⟩:=xI.1 h;have he:e∈o.after:=by simpa using he0
   rw [iX,xv]at H;have hd:=hi o ho e he H.1;rcases H.2 with I|I
   ·rw [<-zp I];exact hd
   ·exact qw down n e.on j (fun p hp=>down e.on p hp hd) I
def yw(h:i<done.size):done.getD i true=done.getD i false:=by simp [h]
def IC(h:zZ done=0)(hi:i<done.size):done.getD i false=true:=by
 unfold zZ at h;rw [List.countP_eq_zero]at h;have M:done[i]∈done.toList:=by simp
 have:=h _ M;rw [<-yw hi];simpa [hi] using this
def TX{r:Option Nat}{P:Program}{L:List Oper}{n:Nat}(hc: ∀m o,n<=m->L[m]? =some o->Mw L m=true)(hedge: ∀m o,L[m]? =some o->jZ m o=true):
  ∀(rest:List Oper) (m:Nat) (done:Array Bool) (fuel:Nat) (a:Act) (w:World),n<=m->L.drop m=rest->done.size=L.length->(∀j,j<L.length->(done.getD j false=true↔j<m))->zZ done=fuel->
   wpListIn (fw r) 0 P L.toArray tD rest a w->wpAnyIn (fw r) 0 P .any L.toArray tD fuel done a w:=by
 intro rest
 induction rest with
 |nil=>
  intro m done fuel a w hnm hdrop hsz hdone hu h;have hlen:L.length<=m:=Jq.1 hdrop;have hr:Region.ready .any L.toArray done=[]:=by
   cases hr:Region.ready .any L.toArray done with
   |nil=>rfl
   |cons i r=>
    have hm:i∈Region.ready .any L.toArray done:=by rw [hr];exact md ..
    obtain⟨hun,o,ho,_⟩:=mem_ready.1 hm;have hi:i<L.length:=by simpa using (Ba.1 ho).1
    have:=(hdone i hi).2 (by omega);rw [yw (by omega)]at hun;rw [hun]at this;cases this
  cases fuel with
  |zero=>exact⟨hr,h⟩
  |succ f=>exact⟨fun _=>h,fun i hi=>by rw [hr]at hi;cases hi⟩
 |cons o rest ih=>
  intro m done fuel a w hnm hdrop hsz hdone hu h;have hm:m<L.length:=by
   rcases wN m L.length with h' |h'
   ·exact h'
   ·rw [Jq.2 h']at hdrop;cases hdrop
  have hLm:L[m]? =some o:=by
   have:=A7 (xs:=L) (i:=m) (j:=0);rw [hdrop]at this;simpa using this.symm
  have hmu:done.getD m true=false:=by
   have hnot: ¬(done.getD m false=true):=fun M=>by have:=(hdone m hm).1 M;omega
   rw [yw (by omega)];exact yE _▸hnot
  have honly: ∀i∈Region.ready .any L.toArray done,i=m:=by
   intro i hi;obtain⟨hun,p,hp,hwait⟩:=mem_ready.1 hi;have hp' :L[i]? =some p:=by simpa using hp
   have hil:i<L.length:=(qS.1 hp').1;have hid: ¬i<m:=fun hlt=>by
    have M:=(hdone i hil).2 hlt;rw [yw (by omega)]at hun;rw [hun]at M;cases M
   rcases wN m i with hlt|hge
   ·exfalso;have hcov:=hc i p (by omega) hp';unfold Mw at hcov;have hre:=mN.1 hcov m (by simpa using hlt);have:done.getD m false=true:=by
     refine qw (L:=L) (done:=done) (fun j q hj hjd e he H=>?_) _ i m (fun q hq e he H=>?_) hre
     ·have hjl:j<L.length:=(qS.1 hj).1;have hjm:=(hdone j hjl).1 hjd;have:=hedge j q hj;unfold jZ at this;have:=mN.1 this e (by simpa using he);simp only [H,rM,B6,Aq]at this;exact(hdone e.on (by omega)).2 (by omega)
     ·have:q=p:=by rw [hp']at hq;simpa using hq.symm
      subst this;exact hwait e he H
    have:=(hdone m hm).1 this;omega
   ·omega
  have hready:m∈Region.ready .any L.toArray done:=by
   rw [mem_ready];refine⟨hmu,o,by simpa using hLm,fun e he H=>?_⟩;have:=hedge m o hLm;unfold jZ at this;have:=mN.1 this e (by simpa using he);simp only [H,rM,B6,Aq]at this;exact(hdone e.on (by omega)).2 this
  cases fuel with
  |zero=>
   have:=IC hu (i:=m) (by omega);have:=(hdone m hm).1 this;omega
  |succ fuel=>
   refine⟨fun hr=>(by rw [hr]at hready;cases hready),fun i hi=>?_⟩;have:=honly i hi;subst this;have hnext:=fun a w=>ih (i+1) (done.setIfInBounds i true) fuel a w (by omega) (by rw [<-uf,hdrop];rfl) (by simpa using hsz) (fun j hj=>by
    by_cases hij:i=j
    ·subst hij;have:i<done.size:=by omega
     simp [this]
    ·rw [getD_set_ne false hij,hdone j hj];omega) (by have:=KK hmu;omega)
   unfold wpOpIn;have hLm' :L.toArray[i]? =some o:=by simpa using hLm
   rw [hLm'];show if _ then _ else _;unfold wpListIn at h;by_cases hw:Region.wanted o (yielded L.toArray a.tmps)=true
   ·rw [bz hw]at h ⊢;exact Oper.wpIn_mono (fun a w hk=>hnext a w hk) h
   ·rw [aR hw]at h ⊢;exact⟨h.1,hnext _ _ h.2⟩
