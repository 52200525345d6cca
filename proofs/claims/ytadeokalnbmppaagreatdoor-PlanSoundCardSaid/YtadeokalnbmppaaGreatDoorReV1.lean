import Derived.WalkKit
import Derived.Orders
import Derived.Shelf.Unicode.CaseTo
import Derived.Shelf.Unicode.DecodeSlow
import Derived.Lone
import Derived.RunT
import Derived.Calls
import Derived.RangeFuncIn
import Derived.TacticsIn
import Derived.OrdersIn
import Derived.LoopIn
import Derived.Laws.AppendOwn
import Derived.Deep.Upon
import Derived.Lib.AppendStr
import Derived.IntWalk
set_option linter.all false
namespace Go.Proofs.YtadeokalnbmppaaGreatDoor
open Go
def bh:= @Option.bind_some
def aZ:= @if_neg
def bq:= @if_pos
def oC:= @List.getElem?_eq_some_iff
def eX:= @Nat.le_refl
def qV:= @List.getElem?_eq_getElem
def pA:= @List.mem_cons_of_mem
def sE:= @List.getElem?_append_right
def pz:= @List.mem_cons_self
def gJ:= @List.append_assoc
def lT:= @List.getElem?_append_left
def jY:= @List.length_append
def jJ:= @Bool.and_eq_true
def jr:= @List.length_cons
def iI:= @List.mem_cons
def np:= @List.mem_singleton
def lz:= @List.nil_append
def lc:= @run_underlying
def s9:= @Array.getElem?_eq_some_iff
def uS:= @List.eq_nil_of_length_eq_zero
def rm:= @Nat.eq_of_beq_eq_true
def rx:= @Nat.le_of_ble_eq_true
def o0:= @List.all_eq_true
def qD:= @Bool.false_eq_true
def s8:= @List.take_of_length_le
def oO:= @List.mem_append
def kY:= @Nat.zero_le
def mN:= @Nat.lt_or_ge
def qr:= @Option.some.inj
def ud:= @List.mem_of_getElem?
def vn:= @List.take_append_drop
def uR:= @List.mem_append_left
def oZ:= @Nat.zero_add
def yK:= @List.drop_eq_getElem_cons
def pG:= @Nat.le_trans
def Bu:= @List.take_append_of_le_length
def pX:= @Nat.sub_self
def vm:= @Result.andThen_ok
def vk:= @decide_eq_true_eq
def lS:= @if_false
def tZ:= @List.length_nil
def wg:= @Nat.lt_of_lt_of_le
def zT:= @List.getElem?_take_of_lt
def sX:= @Bool.true_and
def uQ:= @Bool.eq_iff_iff
def s6:= @Bool.not_true
def B7:= @Array.getElem?_replicate
def xT:= @List.getElem?_drop
def mF:= @if_true
def vj:= @List.drop_zero
def vE:= @List.drop_drop
def vi:= @List.map_cons
def uc:= @Sem.run_bind
def yJ:= @Int.toNat_natCast
def wW:= @Bool.and_assoc
def CN:= @Option.map_eq_some_iff
def zO:= @List.any_eq_true
def Ec:= @List.drop_of_length_le
def yH:= @List.append_nil
def Eb:= @List.length_singleton
def zS:= @Nat.lt_succ_self
def zN:= @decide_eq_false
def FX:= @List.drop_eq_nil_of_le
def wV:= @Nat.add_zero
def Br:= @List.length_take
def zR:= @Bool.or_eq_true
def zM:= @decide_eq_true
def CM:= @Stepped.next.injEq
def yG:= @Bool.false_or
def yF:= @List.all_cons
def Ka:= @Array.getD_eq_getD_getElem?
def B6:= @Bool.not_eq_true
def Bq:= @Nat.min_eq_left
def FW:= @Nat.mul_le_mul_right
def vD:= @beq_iff_eq
def LM:= @List.drop_append_of_le_length
def D9:= @List.getElem?_map
def B5:= @List.take_take
def Bp:= @getD_set_true
def J9:= @List.getElem?_cons_zero
def FS:= @Bool.not_eq_true'
def xS:= @Nat.blt_eq
def FR:= @List.cons_append
def Bo:= @List.mem_map
def CR:= @List.mem_append_right
def uT:= @Nat.add_mul
def xV:= @Bool.not_false
def xU:= @heap_alloc_new
def zW:= @List.getElem_mem
def E6:= @MapKept.run_getObj_map
def BJ:= @Bool.eq_false_iff
def E5:= @List.getElem?_eq_none
def GK:= @decide_eq_false_iff_not
def GJ:= @List.mem_singleton_self
def E4:= @Bool.and_eq_true_iff
def BI:= @decide_eq_decide
def BH:= @List.take_length
def zD:= @List.any_cons
def E3:= @List.map_congr_left
def BG:= @List.length_map
def BF:= @List.drop_take
def GI:= @List.drop_eq_nil_iff
def w7:= @bne_iff_ne
def CO:= @List.map_append
def wi:= @mem_ready
def GH:= @Array.length_toList
def zC:= @getD_set_ne
def QV:= @List.take_succ_eq_append_getElem
def E2:= @List.length_drop
def IU:= @List.set_append_right
def zU:= @Prod.mk.inj
def E1:= @List.length_set
def LW:= @Nat.add_right_cancel_iff
def BE:= @List.map_nil
def BD:= @Nat.le_of_eq
def LU:= @List.not_any_eq_all_not
def E0:= @Bool.false_and
def LT:= @List.length_replicate
def wh:= @Iff.rfl
def LS:= @List.contains_iff_mem
def GG:= @Option.map_some
def IT:= @List.ext_getElem?
def IS:= @List.size_toArray
def IR:= @List.any_eq_false
def EZ:= @Sem.runT_fst
def LR:= @beq_eq_false_iff_ne
def GF:= @callsIn_of_wp
def IQ:= @List.mem_filter
def LQ:= @List.zip_cons_cons
def QT:= @Array.toList_replicate
def QS:= @MapKept.run_setObj_map
def LO:= @Option.some.injEq
def QR:= @Array.getElem?_toList
def GE:= @Sem.run_pure
def IP:= @List.mem_range
def QQ:= @List.singleton_append
def QP:= @List.countP_replicate
def QO:= @MapKept.run_checkKey
def QN:= @Bool.or_eq_false_iff
def LN:= @MapKept.heap_set
def IN:= @Nat.add_assoc
def IM:= @Bool.and_true
def Ig:Obj->Obj->Prop
 | .cells c E fr,o' => ∃d:List Value,o' = .cells (c.toList++d).toArray E fr
 |o,o' =>o' =o
variable{o:Oper}
def wy(o:Obj):Ig o o:=by
 cases o<;>first|rfl|exact⟨[],by simp⟩
variable{c:Code}{cells:List Value}{d:Nat}{fr:Nat×Nat}{k:Nat}{o' :Obj}
def Jo{o o'' :Obj}(h:Ig o o')(k:Ig o' o''):Ig o o'' :=by
 cases o with
 |cells c E fr=>
  obtain⟨d,rfl⟩:=h;obtain⟨d',rfl⟩:=k;exact⟨d++d',by simp⟩
 |_=>cases h;exact k
variable{off:Nat}
def Hu{c:Array Value}{E:TypeId}(h:Ig (.cells c E fr) o'){n:Nat}(hl:((c.toList.drop off).take n).length=n):
  ∃c',o' = .cells c' E fr/\(c'.toList.drop off).take n=(c.toList.drop off).take n:=by
 obtain⟨d,rfl⟩:=h;refine⟨_,rfl,?_⟩;by_cases hn:n=0
 ·subst hn;simp
 simp only [Br,E2]at hl;rw [LM (by omega),Bu (by simp only [E2];omega)]
abbrev SH:=Nat->Option Obj
def SH.le(S S' :SH):Prop:= ∀b o,S b=some o-> ∃o',S' b=some o' /\Ig o o'
variable{S:SH}
def SH.le_refl(S:SH):SH.le S S:=fun _ o h=>⟨o,h,wy o⟩
variable{S' S'' :SH}{b:Bool}{e:TypeId}
def SH.le_trans(h:SH.le S S')(k:SH.le S' S''):SH.le S S'' :=fun b o e=>let⟨o',D,V⟩:=h b o e;let⟨o'',Z,h4⟩:=k b o' D;⟨o'',Z,Jo V h4⟩
structure Ty where
 p:SH->Value->Prop
 mono: ∀{S S' :SH} {v:Value},SH.le S S' ->p S v->p S' v
structure Rp(α:Type) where
 sz:Nat
 agg:Bool
 rc:SH->List Value->α->Prop
 mono: ∀{S S' :SH} {cs:List Value} {x:α},SH.le S S' ->rc S cs x->rc S' cs x
 len: ∀{S:SH} {cs:List Value} {x:α},rc S cs x->cs.length=sz
 one: ∀{S:SH} {cs:List Value} {x:α},rc S cs x-> ∀c∈cs,c.oneCell' =true
 sc:agg=false->sz=1
def Rp.val{α:Type}(r:Rp α)(cs:List Value):Value:=if r.agg then .agg cs.toArray else cs.headD undef
def tD{α:Type}(r:Rp α)(x:α):Ty where
 p:=fun S v=> ∃cs,v=r.val cs/\r.rc S cs x
 mono:=fun h ⟨cs,e,k⟩=>⟨cs,e,r.mono h k⟩
def CZ:Ty where
 p:=fun _ _=>True
 mono:=fun _ _=>trivial
def tV(u:Value):Ty where
 p:=fun _ v=>v=u
 mono:=fun _ h=>h
def rI(k:IntKind):Rp Int where
 sz:=1
 agg:=false
 rc:=fun _ cs x=>cs=[.int k x]
 mono:=fun _ h=>h
 len:=fun h=>by rw [h];rfl
 one:=fun h c hc=>by subst h;simp at hc;subst hc;rfl
 sc:=fun _=>rfl
def rB:Rp Bool where
 sz:=1
 agg:=false
 rc:=fun _ cs x=>cs=[.bool x]
 mono:=fun _ h=>h
 len:=fun h=>by rw [h];rfl
 one:=fun h c hc=>by subst h;simp at hc;subst hc;rfl
 sc:=fun _=>rfl
abbrev ru:=List UInt8
def rS:Rp ru where
 sz:=1
 agg:=false
 rc:=fun _ cs x=>cs=[.string ⟨x.toArray⟩]
 mono:=fun _ h=>h
 len:=fun h=>by rw [h];rfl
 one:=fun h c hc=>by subst h;simp at hc;subst hc;rfl
 sc:=fun _=>rfl
variable{cs:List Value}{v:Value}
def gm{k:IntKind}{n:Int}:(tD (rI k) n).p S v↔v= .int k n:=by
 constructor
 ·rintro⟨cs,rfl,h⟩;have h' :cs=[.int k n]:=h;subst h';rfl
 ·rintro rfl;exact⟨[.int k n],rfl,rfl⟩
def jN:(tD rB b).p S v↔v= .bool b:=by
 constructor
 ·rintro⟨cs,rfl,h⟩;have h' :cs=[.bool b]:=h;subst h';rfl
 ·rintro rfl;exact⟨[.bool b],rfl,rfl⟩
variable{α:Type}{s:Sem α}
def z6{s:ru}:(tD rS s).p S v↔v= .string ⟨s.toArray⟩:=by
 constructor
 ·rintro⟨cs,rfl,h⟩;have h' :cs=[.string ⟨s.toArray⟩]:=h;subst h';rfl
 ·rintro rfl;exact⟨[.string ⟨s.toArray⟩],rfl,rfl⟩
def vq{α:Type}(r:Rp α)(S:SH):List Value->List α->Prop
 |cs,[]=>cs=[]
 |cs,x::xs=> ∃a b,cs=a++b/\r.rc S a x/\vq r S b xs
variable{a:Act}{xs:List α}
def u3{α:Type}{r:Rp α}{S S' :SH}(h:SH.le S S'): ∀{xs:List α} {cs:List Value},vq r S cs xs->vq r S' cs xs
 |[],_,k=>k
 |_::_,_,⟨a,b,e,D,V⟩=>⟨a,b,e,r.mono h D,u3 h V⟩
variable{x:Operand}
def pM{α:Type}{r:Rp α}{S:SH}: ∀{xs:List α} {cs:List Value},vq r S cs xs->cs.length=xs.length*r.sz
 |[],_,k=>by rw [show _=_ from k];simp
 |x::xs,_,⟨a,b,e,D,V⟩=>by rw [e,jY,r.len D,pM V,jr,uT];omega
def C9{α:Type}{r:Rp α}{S:SH}: ∀{xs:List α} {cs:List Value},vq r S cs xs-> ∀c∈cs,c.oneCell' =true
 |[],_,k,c,hc=>by rw [show _=_ from k]at hc;cases hc
 |x::xs,_,⟨a,b,e,D,V⟩,c,hc=>by
  rw [e]at hc;rcases oO.1 hc with h|h
  ·exact r.one D c h
  ·exact C9 V c h
variable{ys:List α}
def wu{α:Type}{r:Rp α}{S:SH}: ∀{xs ys:List α} {cs ds:List Value},vq r S cs xs->vq r S ds ys->vq r S (cs++ds) (xs++ys)
 |[],_,_,_,k,h=>by rw [show _=_ from k];exact h
 |_::_,_,_,_,⟨a,b,e,D,V⟩,h=>⟨a,_,by rw [e,gJ],D,wu V h⟩
def sL{α:Type}{r:Rp α}{S:SH}: ∀{xs ys:List α} {cs:List Value},vq r S cs (xs++ys)->
  vq r S (cs.take (xs.length*r.sz)) xs/\vq r S (cs.drop (xs.length*r.sz)) ys
 |[],_,_,k=>by simp [vq];exact k
 |x::xs,ys,cs,⟨a,b,e,D,V⟩=>by
  have hl:=r.len D;have ih:=sL V;have e1:(x::xs).length*r.sz=a.length+xs.length*r.sz:=by rw [hl,jr,uT];omega
  rw [e,e1,List.take_length_add_append,List.drop_length_add_append];exact⟨⟨a,_,rfl,D,ih.1⟩,ih.2⟩
def Pr{r:Rp α}{x:α}:vq r S cs [x]↔r.rc S cs x:=by
 constructor
 ·rintro⟨a,b,rfl,h,K⟩;rw [show b=[]from K,yH];exact h
 ·intro h;exact⟨cs,[],by simp,h,rfl⟩
variable{i:Nat}
def Gn{r:Rp α}(h:vq r S cs xs){x:α}(I:xs[i]? =some x):
  r.rc S ((cs.drop (i*r.sz)).take r.sz) x:=by
 have hi:i<xs.length:=(oC.1 I).1;have e:xs=xs.take i++(x::xs.drop (i+1)):=by
  have:=oC.1 I;rw [<-this.2,<-yK hi,vn]
 have hl:(xs.take i).length=i:=by simp;omega
 rw [e]at h;have V:=(sL h).2;rw [hl]at V;obtain⟨a,b,e2,Z,_⟩:=V;rw [e2,<-r.len Z,List.take_left];exact Z
def Mh{α:Type}(r:Rp α)(S:SH)(a:Option Addr)(xs:List α):Prop:=
 xs=[]\/ ∃b off c E fr,a=some ⟨b,off,none⟩/\S b=some (.cells c E fr)/\vq r S ((c.toList.drop off).take (xs.length*r.sz)) xs
def eW{α:Type}(r:Rp α):Rp (List α) where
 sz:=1
 agg:=false
 rc:=fun S cs xs=> ∃a cap,cs=[.slice a xs.length cap]/\xs.length<=cap/\cap<=maxLen/\Mh r S a xs
 mono:=fun h ⟨a,cap,e,D,V,Z⟩=>⟨a,cap,e,D,V,Z.imp id fun⟨b,off,c,E,fr,e1,e2,e3⟩=>by
  obtain⟨o',h4,h5⟩:=h _ _ e2;obtain⟨c',rfl,h6⟩:=Hu h5 (pM e3);exact⟨b,off,c',E,fr,e1,h4,by rw [h6];exact u3 h e3⟩⟩
 len:=fun⟨a,cap,e,_⟩=>by rw [e];rfl
 one:=fun⟨a,cap,e,_⟩ c hc=>by rw [e]at hc;simp at hc;subst hc;rfl
 sc:=fun _=>rfl
variable{cap:Nat}
def oV{r:Rp α}:(tD (eW r) xs).p S v↔ ∃a cap,v= .slice a xs.length cap/\xs.length<=cap/\cap<=maxLen/\Mh r S a xs:=by
 constructor
 ·rintro⟨cs,rfl,a,cap,rfl,h⟩;exact⟨a,cap,rfl,h⟩
 ·rintro⟨a,cap,rfl,h⟩;exact⟨_,rfl,a,cap,rfl,h⟩
def Gk{r:Rp α}:(tD (eW r) []).p S (.slice none 0 0):=oV.2 ⟨none,0,rfl,eX _,kY _,.inl rfl⟩
def aY{α:Type}(r:Rp α)(x:α):Ty where
 p:=fun S v=> ∃b off c E fr,v= .pointer (some ⟨b,off,none⟩)/\S b=some (.cells c E fr)/\r.rc S ((c.toList.drop off).take r.sz) x
 mono:=fun h ⟨b,off,c,E,fr,e1,e2,e3⟩=>by
  obtain⟨o',h4,h5⟩:=h _ _ e2;obtain⟨c',rfl,h6⟩:=Hu h5 (r.len e3);exact⟨b,off,c',E,fr,e1,h4,by rw [h6];exact r.mono h e3⟩
def glob:List (Nat×List Value):=[(0,[.string ⟨([98,111,111,108]:List UInt8).toArray⟩,.int .i64 (1),.string ⟨([105,110,116]:List UInt8).toArray⟩,.int .i64 (2),.string ⟨([116,101,120,116]:List UInt8).toArray⟩,.int .i64 (3)]),(1,[.string ⟨([83,69,76,69,67,84]:List UInt8).toArray⟩,.string ⟨([68,73,83,84,73,78,67,84]:List UInt8).toArray⟩,.string ⟨([70,82,79,77]:List UInt8).toArray⟩,.string ⟨([76,69,70,84]:List UInt8).toArray⟩,.string ⟨([74,79,73,78]:List UInt8).toArray⟩,.string ⟨([79,78]:List UInt8).toArray⟩,.string ⟨([87,72,69,82,69]:List UInt8).toArray⟩,.string ⟨([71,82,79,85,80]:List UInt8).toArray⟩,.string ⟨([66,89]:List UInt8).toArray⟩,.string ⟨([72,65,86,73,78,71]:List UInt8).toArray⟩,.string ⟨([85,78,73,79,78]:List UInt8).toArray⟩,.string ⟨([65,76,76]:List UInt8).toArray⟩,.string ⟨([79,82,68,69,82]:List UInt8).toArray⟩,.string ⟨([76,73,77,73,84]:List UInt8).toArray⟩,.string ⟨([65,83,67]:List UInt8).toArray⟩,.string ⟨([68,69,83,67]:List UInt8).toArray⟩,.string ⟨([65,83]:List UInt8).toArray⟩,.string ⟨([65,78,68]:List UInt8).toArray⟩,.string ⟨([79,82]:List UInt8).toArray⟩,.string ⟨([78,79,84]:List UInt8).toArray⟩,.string ⟨([73,83]:List UInt8).toArray⟩,.string ⟨([78,85,76,76]:List UInt8).toArray⟩,.string ⟨([84,82,85,69]:List UInt8).toArray⟩,.string ⟨([70,65,76,83,69]:List UInt8).toArray⟩,.string ⟨([67,79,85,78,84]:List UInt8).toArray⟩,.string ⟨([83,85,77]:List UInt8).toArray⟩,.string ⟨([77,73,78]:List UInt8).toArray⟩,.string ⟨([77,65,88]:List UInt8).toArray⟩])]
def SI(w:World):Prop:=Lib.CaseVar 2 Lib.caseA w/\Lib.Utf8Tabs 4 5 w
structure kQ(w:World)(S:SH):Prop where
 h_: ∀b o,S b=some o-> ∃o',w.heap[b]? =some o' /\Ig o o'
 gl: ∀p∈glob,∃c T fr,S p.1=some (.cells c T fr)/\c.toList.take p.2.length=p.2
 tb: ∀w' :World,(∀b o,S b=some o-> ∃o',w'.heap[b]? =some o' /\Ig o o')->SI w'
instance{w:World}{S:SH}:CoeFun (kQ w S) (fun _=> ∀b o,S b=some o-> ∃o',w.heap[b]? =some o' /\Ig o o'):=⟨kQ.h_⟩
variable{w:World}
def kQ.tab(h:kQ w S):SI w:=h.tb w h.h_
def kQ.lt(h:kQ w S){b:Nat}{o:Obj}(k:S b=some o):b<w.heap.size:=let⟨_,D,_⟩:=h b o k;(s9.1 D).1
def kQ.part(h:kQ w S){b:Nat}{c:Array Value}{E:TypeId}(k:S b=some (.cells c E fr)){n:Nat}(hl:((c.toList.drop off).take n).length=n):
  ∃c',w.heap[b]? =some (.cells c' E fr)/\(c'.toList.drop off).take n=(c.toList.drop off).take n:=by
 obtain⟨o',D,V⟩:=h b _ k;obtain⟨c',rfl,Z⟩:=Hu V hl;exact⟨c',D,Z⟩
variable{w' :World}
def kQ.same(h:kQ w S)(k: ∀b o,S b=some o->w'.heap[b]? =w.heap[b]?):kQ w' S:=⟨fun b o e=>by rw [k b o e];exact h b o e,h.gl,h.tb⟩
def sq:Nat->Prop:=fun _=>False
structure ji(B:Nat->Prop)(w:World)(S:SH)(w' :World)(S' :SH):Prop where
 os:w'.os=w.os
 tape:w'.tape=w.tape
 output:w'.output=w.output
 drawn:w.drawn<=w'.drawn
 size:w.heap.size<=w'.heap.size
 heap: ∀k,k<w.heap.size-> ¬B k->w'.heap[k]? =w.heap[k]?
 keep:SH.le S S'
 old: ∀k,k<w.heap.size-> ¬B k->S' k=S k
def ji.refl(B:Nat->Prop)(w:World)(S:SH):ji B w S w S:=⟨rfl,rfl,rfl,eX _,eX _,fun _ _ _=>rfl,SH.le_refl _,fun _ _ _=>rfl⟩
variable{w'' :World}
def ji.trans{B:Nat->Prop}(h:ji B w S w' S')(k:ji B w' S' w'' S''):ji B w S w'' S'' :=
 ⟨k.os.trans h.os,k.tape.trans h.tape,k.output.trans h.output,pG h.drawn k.drawn,pG h.size k.size,
  fun i hi K=>(k.heap i (wg hi h.size) K).trans (h.heap i hi K),SH.le_trans h.keep k.keep,
  fun i hi K=>(k.old i (wg hi h.size) K).trans (h.old i hi K)⟩
variable{C:Nat->Prop}
def ji.step{B:Nat->Prop}(h:ji B w S w' S')(k:ji C w' S' w'' S'')(hC: ∀b,C b->w.heap.size<=b\/B b):ji B w S w'' S'' :=
 ⟨k.os.trans h.os,k.tape.trans h.tape,k.output.trans h.output,pG h.drawn k.drawn,pG h.size k.size,
  fun i hi K=>(k.heap i (wg hi h.size) (fun hc=>(hC i hc).elim (fun h=>by omega) K)).trans (h.heap i hi K),SH.le_trans h.keep k.keep,
  fun i hi K=>(k.old i (wg hi h.size) (fun hc=>(hC i hc).elim (fun h=>by omega) K)).trans (h.old i hi K)⟩
def ji.more{B:Nat->Prop}(h:ji B w S w' S')(k: ∀b,B b->C b):ji C w S w' S' :=
 ⟨h.os,h.tape,h.output,h.drawn,h.size,fun i hi K=>h.heap i hi (fun h=>K (k i h)),h.keep,fun i hi K=>h.old i hi (fun h=>K (k i h))⟩
def ji.step0{B:Nat->Prop}(h:ji B w S w' S')(k:ji sq w' S' w'' S''):ji B w S w'' S'' :=h.step k fun _ K=>K.elim
structure OE where
 fp:Nat->Prop
 p:World->SH->Prop
 here: ∀{w S},p w S-> ∀k,fp k->k<w.heap.size
 kept: ∀{C w w' S S'},p w S->ji C w S w' S' ->(∀k,fp k-> ¬C k)->p w' S'
def OE.holds(e:OE)(base:Nat)(B:Nat->Prop)(w:World)(S:SH):Prop:=e.p w S/\ ∀k,e.fp k->base<=k\/B k
def OE.apart(e f:OE):Prop:= ∀b,e.fp b-> ¬f.fp b
def dR(base:Nat)(B:Nat->Prop)(w:World)(S:SH):List OE->Prop
 |[]=>True
 |e::O=>e.holds base B w S/\(∀f∈O,e.apart f)/\dR base B w S O
def LF{e:OE}{base:Nat}{B:Nat->Prop}(h:e.holds base B w S)(k:ji C w S w' S')(hC: ∀b,e.fp b-> ¬C b):e.holds base B w' S' :=⟨e.kept h.1 k hC,h.2⟩
variable{O:List OE}{f:FuncId}
def dR.ext{base:Nat}{B:Nat->Prop}(k:ji C w S w' S'): ∀{O:List OE},dR base B w S O->(∀e∈O,∀b,e.fp b-> ¬C b)->dR base B w' S' O
 |[],_,_=>trivial
 |e::_,⟨D,V,Z⟩,hC=>⟨LF D k (hC e (pz ..)),V,dR.ext k Z fun f Q=>hC f (pA _ Q)⟩
def dR.ext0{base:Nat}{B:Nat->Prop}(k:ji sq w S w' S')(h:dR base B w S O):dR base B w' S' O:=
 h.ext k fun _ _ _ _ K=>K
def dR.mem{base:Nat}{B:Nat->Prop}: ∀{O:List OE},dR base B w S O-> ∀e∈O,e.holds base B w S
 |_::_,⟨D,_,_⟩,_,.head _=>D
 |_::_,⟨_,_,Z⟩,_,.tail _ hm=>dR.mem Z _ hm
abbrev oz:=List (Nat×Ty)
def look:oz->Nat->Option Ty
 |[],_=>none
 |(k,t)::G,j=>bif Nat.beq k j then some t else look G j
structure Fr where
 n:Nat
 ds:List Deferred
structure cH(N:Fr)(S:SH)(a:Act)(G:oz):Prop where
 size:a.tmps.size=N.n
 defers:a.defers=N.ds
 h_: ∀k t,look G k=some t->t.p S (a.tmps.getD k undef)
variable{G:oz}{j:Nat}{t:Ty}
def cH.mono{N:Fr}(h:cH N S a G)(k:SH.le S S'):cH N S' a G:=⟨h.size,h.defers,fun j t e=>t.mono k (h.h_ j t e)⟩
def cH.sub{N:Fr}{G' :oz}(h:cH N S a G)(k: ∀j t,look G' j=some t->look G j=some t):cH N S a G' :=⟨h.size,h.defers,fun j t e=>h.h_ j t (k j t e)⟩
variable{u:OE}
def cH.put{N:Fr}(h:cH N S a G)(hd:Nat.blt d N.n=true)(hv:t.p S v):cH N S (a.put (some d) v) ((d,t)::G):=by
 have hd' :d<N.n:=by simpa [xS] using hd
 refine⟨by simp [Act.put,h.size],h.defers,fun j u e=>?_⟩;unfold look at e;by_cases hj:d=j
 ·subst hj;have e' :t=u:=by simpa using e
  rw [e']at hv;simp [Act.put,Ka,h.size,hd',hv]
 ·have K:Nat.beq d j=false:=by cases hh:Nat.beq d j with
   |false=>rfl
   |true=>exact absurd (rm hh) hj
  rw [K]at e;have:=h.h_ j u e;simpa [Act.put,Ka,Array.getElem?_setIfInBounds,hj] using this
def OZ:oz->oz->Prop
 |[],_=>True
 |(k,t)::G',G=>look G k=some t/\OZ G' G
def I3: ∀{G' G:oz},OZ G' G-> ∀j t,look G' j=some t->look G j=some t
 |(k,t)::G',G,⟨D,V⟩,j,u,e=>by
  unfold look at e;by_cases K:Nat.beq k j=true
  ·rw [K]at e;have:=rm K;subst this;simp only [cond_true]at e;rw [<-e];exact D
  ·rw [B6]at K;rw [K]at e;exact I3 V j u e
def aG(N:Fr)(G:oz)(x:Operand)(t:Ty):Prop:= ∀S a,cH N S a G->t.p S (a.eval x)
def Y{N:Fr}(h:look G k=some t):aG N G (.tmp k) t:=fun _ _ hF=>hF.h_ k t h
def hI{N:Fr}{k:IntKind}{n:Int}:aG N G (.const (.int k n)) (tD (rI k) n):=fun _ _ _=>gm.2 rfl
def hB{N:Fr}:aG N G (.const (.bool b)) (tD rB b):=fun _ _ _=>jN.2 rfl
def hS{N:Fr}{s:Array UInt8}:aG N G (.const (.string ⟨s⟩)) (tD rS s.toList):=fun _ _ _=>z6.2 rfl
def ID{N:Fr}{r:Rp α}:aG N G (.const (.slice none 0 0)) (tD (eW r) []):=fun _ _ _=>Gk
def hV{N:Fr}:aG N G (.const v) (tV v):=fun _ _ _=>rfl
variable{R:Ending->World->Prop}{args:α->List Ty}{bytes:Nat}{done:Array Bool}{es:Array Event}{g:Option (Nat×Bool)}{gs:Nat}{l:Option Nat}{m m' :Machine}{ops:Array Oper}{q:Bool}{rest:List Oper}
section
variable{P:Program}
def wOf{α:Type}:Result α->World
 | .ok _ w=>w
 | .halt _ w=>w
def K0(w:World)(a:Addr)(n:Nat):(w.freeze a n).drawn=w.drawn:=by unfold World.freeze;split<;>rfl
def F1{h_:Addr}{u:TypeId}{k:Addr}{x:Bool}{r:World×List Addr}(h:w.viewStore P h_ u k v x= .ok r):r.1.drawn=w.drawn:=by
 unfold World.viewStore at h;simp only [bind,Except.bind,pure,Except.pure,throw,throwThe,MonadExceptOf.throw]at h;repeat' (split at h)
 all_goals first
  |(cases h;done)
  |(cases h;rfl)
def HQ{a:Addr}{x:Bool}{r:World×List Addr}(h:w.farStore P a v x= .ok r):r.1.drawn=w.drawn:=by
 unfold World.farStore at h;split at h
 ·split at h
  ·rename_i V;cases h;exact F1 V
  ·cases h
 ·cases h
def EO{α:Type}: ∀(a:Ask α) (w:World),w.drawn<=(w.ask a).2.drawn
 | .done a,w=>eX _
 | .ask what range k,w=>by
  unfold World.ask;simp only;split
  ·exact EO (k 0) w
  ·exact pG (Nat.le_succ _) (EO (k ((Question.extern what range).cut (w.tape w.drawn (Question.extern what range)))) {w with drawn:=w.drawn+1})
def SJ(w:World)(c:Sys):w.drawn<=(w.sys c).2.drawn:=by
 unfold World.sys;have h:=EO (Kernel.perform c w.os) w;split
 ·exact eX _
 ·rename_i V;rw [V]at h;exact h
def j9{α:Type}: ∀(s:Sem α) (w:World),w.drawn<=(wOf (s.run P w)).drawn
 | .pure a,w=>eX _
 | .load m a k,w=>by
  unfold Sem.run;split
  ·exact j9 _ w
  ·split
   ·exact j9 _ w
   ·exact eX _
 | .store m a v k,w=>by
  have key:w.drawn<=(wOf (match w.cell? a with
   |some _=>if w.frozen? a then .halt (.unsupported (.unsafePointer "a write to bytes that a string shares")) w else k.run P (w.setCell a v)
   |none=>match w.farStore P a v (m== .atomic)with
    | .ok (w,_)=>k.run P w
    | .error h=> .halt h w)).drawn:=by
   split
   ·split
    ·exact eX _
    ·exact j9 k (w.setCell a v)
   ·split
    ·rename_i w' l h;have:=j9 k w';rw [show w'.drawn=w.drawn from HQ h]at this;exact this
    ·exact eX _
  cases v<;>first|exact eX _|(simp only [Sem.run];exact key)
 | .new o k,w=>j9 (k w.heap.size) {w with heap:=w.heap.push o}
 | .shape r k,w=>j9 (k (w.shape? r)) w
 | .freeze a n k,w=>by
  have:=j9 k (w.freeze a n);rw [K0]at this;exact this
 | .frozen a k,w=>j9 (k (w.frozen? a)) w
 | .getObj r k,w=>by
  unfold Sem.run;split
  ·exact eX _
  ·exact j9 _ w
  ·exact eX _
 | .setObj r o k,w=>by
  unfold Sem.run;split
  ·exact eX _
  ·exact j9 k {w with heap:=w.heap.setIfInBounds r o}
  ·exact eX _
 | .choose q k,w=>by
  unfold Sem.run;split
  ·exact j9 (k 0) w
  ·exact pG (Nat.le_succ _) (j9 (k (q.cut (w.tape w.drawn q))) {w with drawn:=w.drawn+1})
 | .sys c k,w=>by
  exact pG (SJ w c) (j9 (k (w.sys c).1) (w.sys c).2)
 | .program k,w=>j9 (k P) w
 | .mark m k,w=>j9 k w
 | .halt h,w=>eX _
def dQ{x:α}(h:s.run P w= .ok x w'):w.drawn<=w'.drawn:=by
 have:=j9 (P:=P) s w;rw [h]at this;exact this
def qS{x:Halt}(h:s.run P w= .halt x w'):w.drawn<=w'.drawn:=by
 have:=j9 (P:=P) s w;rw [h]at this;exact this
def Ti{x:α}{es' :Array Event}(h:s.runT P w es=(.ok x w',es')):w.drawn<=w'.drawn:=
 dQ (P:=P) (s:=s) (x:=x) (by rw [<-EZ P s w es,h])
def Nt{x:Halt}{es' :Array Event}(h:s.runT P w es=(.halt x w',es')):w.drawn<=w'.drawn:=
 qS (P:=P) (s:=s) (x:=x) (by rw [<-EZ P s w es,h])
def F0{rest:Rest}{cases:Array CommCase}(h:waitingAt rest cases w=some w'):w'.drawn=w.drawn:=by
 unfold waitingAt at h;repeat' (split at h)
 all_goals (cases h;try rfl)
def DF(rest:Rest)(gs:Array Goroutine)(i:Nat)(g:Goroutine)(cases:Array CommCase)(blocking:Bool)
  (shape:CommShape)(w:World)(m' :Machine)(h:(communicate P rest gs i g cases blocking shape w).1= .next m'):w.drawn<=m'.world.drawn:=by
 unfold communicate at h;simp only []at h;repeat' first
  |(simp at h;done)
  |(simp only [CM]at h;subst h;(try dsimp only);exact eX _)
  |(simp only [CM]at h;subst h;(try dsimp only);exact dQ (by assumption))
  |(simp only [CM]at h;subst h;(try dsimp only);exact BD (F0 (by assumption)).symm)
  |(simp only [CM]at h;subst h;(try dsimp only);exact pG (dQ (by assumption)) (dQ (by assumption)))
  |(simp only [CM]at h;subst h;(try dsimp only);exact pG (dQ (by assumption)) (qS (by assumption)))
  |split at h
def HC(gs:Array Goroutine)(rest:Rest)(w:World)(m' :Machine)
  (h:Go.look P gs rest w= .next m'):w.drawn<=m'.world.drawn:=by
 unfold Go.look at h;simp only []at h;repeat' first
  |(simp at h;done)
  |(simp only [CM]at h;subst h;(try dsimp only);exact dQ (by assumption))
  |split at h
def Gx(d:Nat):GStep->Prop
 | .go _ w _=>d<=w.drawn
 | .comm _ _ _ _ w _=>d<=w.drawn
 | .spawn _ _ w _=>d<=w.drawn
 | .count _ w _=>d<=w.drawn
 | .timer _ _ w _=>d<=w.drawn
 | .alone _ _ w _=>d<=w.drawn
 | .newcoro _ _ _ w _=>d<=w.drawn
 | .coroswitch _ _ _ w _=>d<=w.drawn
 | .collect _ w _=>d<=w.drawn
 | .watch _ w _=>d<=w.drawn
 | .ended _ _ _=>True
def uu{s:GStep}(h:Gx d s):Gx d (s.after es):=by cases s<;>exact h
def wF{e:Nat}{s:GStep}(h:Gx d s)(k:e<=d):Gx e s:=by
 cases s<;>first|exact pG k h|trivial
def Qo(d:Nat)(w:World)(fd:Nat)(text:ByteArray)(o:Outcome):Gx d (endWith w fd text o):=by
 unfold endWith;repeat' split
 all_goals trivial
def Wk(fr:Frame)(jq:List ByteArray)(m:String)(whole:Bool)(w:World):Gx w.drawn (dieOf fr jq m whole w):=eX _
def xx(fr:Frame)(m:String)(w:World):Gx w.drawn (endThrow fr m w):=eX _
def AJ(fr:Frame)(v:Value)(w:World):Gx w.drawn (endPrinting P fr v w):=by
 unfold endPrinting;simp only [];split
 ·exact eX _
 ·trivial
def FH(fr:Frame)(callers:List Frame)(dying:Option Dying)(m:String)(w:World):Gx w.drawn (endFatal P fr callers dying m w):=by
 unfold endFatal;simp only [];split
 ·exact wF (Wk _ _ _ _ _) (dQ (by assumption))
 ·trivial
 ·trivial
def OM(fr:Frame)(d:Dying)(f:Fatal)(w:World):Gx w.drawn (writeOn P fr d f w):=by
 unfold writeOn;simp only [];split
 ·trivial
 ·split
  ·exact Ti (by assumption)
  ·exact Nt (by assumption)
  ·trivial
  ·trivial
def ab7(fr:Frame)(d:Dying)(w:World):Gx w.drawn (die P fr d w):=by
 unfold die;simp only [];split
 ·exact OM _ _ _ _
 ·split
  ·split
   ·exact eX _
   ·exact Qo _ _ _ _ _
  ·split
   ·exact eX _
   ·split
    ·exact dQ (by assumption)
    ·trivial
   ·apply uu;split
    ·exact dQ (P:=P) (by rw [<-EZ];assumption)
    ·exact dQ (P:=P) (by rw [<-EZ];assumption)
    ·trivial
    ·exact wF (AJ _ _ _) (qS (P:=P) (by rw [<-EZ];assumption))
    ·trivial
   ·trivial
def uq{x:α}(h:(s.runT P w es).1= .ok x w'):w.drawn<=w'.drawn:=dQ (P:=P) (s:=s) (x:=x) (by rw [<-EZ P s w es,h])
def xp{x:Halt}(h:(s.runT P w es).1= .halt x w'):w.drawn<=w'.drawn:=qS (P:=P) (s:=s) (x:=x) (by rw [<-EZ P s w es,h])
def AL(main:Bool)(fr:Frame)(callers:List Frame)(dying:Option Dying)(v:Value)(w:World):Gx w.drawn (doReturn P main fr callers dying v w):=by
 unfold doReturn;simp only [];repeat' split
 all_goals first|exact eX _|trivial
def KY{c:Prop} [Decidable c]{a b:GStep}(ha:Gx d a)(K:Gx d b):Gx d (if c then a else b):=by split<;>assumption
def Gh(fr:Frame)(callers:List Frame)(dying:Option Dying)(d:Deferred)(w:World):Gx w.drawn (callDeferred P fr callers dying d w):=by
 unfold callDeferred;simp only [];refine KY trivial (uu ?_);split;all_goals first
  |exact uq (by assumption)
  |exact xp (by assumption)
  |trivial
  |exact wF (FH _ _ _ _ _) (xp (by assumption))
  |exact wF (xx _ _ _) (xp (by assumption))
  |(split<;>exact uq (by assumption))
def SC(main:Bool)(fr:Frame)(callers:List Frame)(dying:Option Dying)(w:World):Gx w.drawn (unwind P main fr callers dying w):=by
 unfold unwind;simp only [];split
 ·apply uu;split
  ·exact uq (by assumption)
  ·trivial
 ·exact Gh _ _ _ _ _
 ·split
  ·trivial
  ·split
   ·trivial
   ·split
    ·exact eX _
    ·split
     ·split
      ·exact eX _
      ·split
       ·exact dQ (by assumption)
       ·trivial
       ·trivial
     ·split
      ·exact AJ _ _ _
      ·trivial
  ·split
   ·exact AL _ _ _ _ _ _
   ·apply uu;split
    ·exact wF (AL _ _ _ _ _ _) (uq (by assumption))
    ·trivial
    ·trivial
def Wg(fr:Frame)(callers:List Frame)(dying:Option Dying)(g:Nat)(w:World):Gx w.drawn (early P fr callers dying g w):=by
 have hn: ∀w1:World,w.drawn<=w1.drawn->Gx w.drawn (match w1.heap[g]? with
   |some (.pending c elem)=> .go {frame:=fr,callers,status:= .running,dying} {w1 with heap:=w1.heap.setIfInBounds g (.cells c elem)}
   |_=> .ended (.stuck "early: the variable does not wait" (fr.pos P)) w1):=fun w1 h=>by
  split
  ·exact h
  ·trivial
 unfold early;simp only [];repeat' first
  |trivial
  |exact hn _ (eX _)
  |exact eX _
  |exact hn _ (dQ (by assumption))
  |exact dQ (P:=P) (by assumption)
  |split
def AQ(main:Bool)(listen:Bool)(fr:Frame)(callers:List Frame)(dying:Option Dying)(s:Sem Next)(w:World):Gx w.drawn (stepG.apply P listen fr callers dying s w):=by
  unfold stepG.apply;simp only [];apply uu;have hr:(if listen=true then s.runT P w #[]else(s.run P w,#[])).1=s.run P w:=by
    split
    · exact EZ _ _ _ _
    · rfl
  rw [hr];split;all_goals first
    |exact dQ (by assumption)
    |exact qS (by assumption)
    |trivial
    |exact wF (FH _ _ _ _ _) (qS (by assumption))
    |exact wF (xx _ _ _) (qS (by assumption))
    |exact wF (Wg _ _ _ _ _) (qS (by assumption))
    | (repeat' split
       all_goals first
        |exact dQ (by assumption)
        |exact wF (xx _ _ _) (dQ (by assumption)))
def Xv(main listen:Bool)(fr:Frame)(callers:List Frame)(dying:Option Dying)(w:World):Gx w.drawn (stepG.oper P listen fr callers dying w):=by
 unfold stepG.oper;split
 ·trivial
 ·split
  ·exact AQ main _ _ _ _ _ _
  ·exact AQ main _ _ _ _ _ _
def YJ(main listen:Bool)(fr:Frame)(callers:List Frame)(dying:Option Dying)(w:World):Gx w.drawn (stepG.exec P main listen fr callers dying w):=by
 have leave: ∀(c:Prop) (_:Decidable c) (jump:Option Code),Gx w.drawn (match fr.roundOf with
   |none=>if c then GStep.go {frame:={fr with mode:= .returning},callers,status:= .running,dying} w else .ended (.stuck "exit, goto: no such block or label" (fr.pos P)) w
   |some l=>GStep.after (seen P fr.fn ((Instr.endRound l jump).runT P w #[]).2) (match ((Instr.endRound l jump).runT P w #[]).1 with
    | .ok v w=>doReturn P main fr callers dying v w
    | .halt _ w=> .ended (.stuck "range over a function: no such loop" (fr.pos P)) w)):=fun c _ jump=>by
  split
  ·exact KY (eX _) trivial
  ·apply uu;split
   ·exact wF (AL _ _ _ _ _ _) (uq (by assumption))
   ·trivial
 unfold stepG.exec;simp only [];split;all_goals first
  |exact leave _ _ _
  |exact eX _
  |exact AQ main _ _ _ _ _ _
  |trivial
  |(split<;>first|exact eX _|trivial)
  |(cases h:exitTo _ _<;>first|exact eX _|exact leave _ _ _)
  |(cases h:gotoIn _ _<;>first|exact eX _|exact leave _ _ _)
  |(cases h:Extern.next _<;>first|trivial|exact AQ main _ _ _ _ _ _)
  |(apply uu;split<;>first|trivial|exact uq (by assumption)|exact xp (by assumption)|exact wF (AQ main _ _ _ _ _ _) (uq (by assumption)))
  |(refine KY (eX _) ?_;split<;>first|trivial|exact dQ (by assumption))
  |(refine KY ?_ (eX _);exact Xv main _ _ _ _ _)
  |skip
def US(main listen:Bool)(g:Goroutine)(w:World):Gx w.drawn (stepG P main g w listen):=by
 unfold stepG;simp only [];split
 ·exact ab7 _ _ _
 ·exact YJ _ _ _ _ _ _
 ·exact SC _ _ _ _ _
def Il{op:TimerOp}(h:timerOp m op= .ok (v,m')):m.world.drawn<=m'.world.drawn:=by
 have hr: ∀(m0:Machine) (k:Nat) (t:Timer) (when_ period:Nat),(retime m0 k t when_ period).2.world.drawn=m0.world.drawn:=fun m0 k t a b=>by
  unfold retime drain
  cases t.chan with
  |none=>rfl
  |some c=>simp only [];split<;>rfl
 have ho: ∀{var:Addr} {m0:Machine},timerOp.opened m var=some m0->m0.world.drawn=m.world.drawn:=fun{var m0} h=>by
  unfold timerOp.opened at h;repeat' (split at h)
  all_goals (cases h;try rfl)
 have hn: ∀{var:Addr} {m0:Machine} {f:Nat->Timer->Value×Machine} {r:Value×Machine},timerOp.named m0 var f= .ok r-> ∃k t,r=f k t:=fun{var m0 f r} h=>by
  unfold timerOp.named at h;split at h
  ·cases h;exact⟨_,_,rfl⟩
  ·cases h
 unfold timerOp at h;split at h
 ·repeat' (split at h)
  all_goals first
   |(cases h;exact eX _)
   |(cases h;done)
 ·obtain⟨k,t,e⟩:=hn h;rw [show m' =(retime m k t 0 t.period).2 from congrArg Prod.snd e,hr];exact eX _
 ·split at h
  ·rename_i m0 hm0;obtain⟨k,t,e⟩:=hn h;rw [show m' =(retime m0 k t _ _).2 from congrArg Prod.snd e,hr,ho hm0];exact eX _
  ·cases h
 ·simp only [Except.ok.injEq,Prod.mk.injEq]at h;rw [<-h.2];exact eX _
def NR{fr:Frame}{m:String}{g:Goroutine}(h:endThrow fr m w= .go g w' es):w.drawn<=w'.drawn:=by
 have:=xx fr m w;rw [h]at this;exact this
def Pk(m m' :Machine)(i:Nat)(b:Bool)(h:(runT P m i b).1= .next m'):m.world.drawn<=m'.world.drawn:=by
  simp only [runT]at h
  revert h
  generalize m.gs.swapAt! _ _=gg;have hs:=US (P:=P) (i==0) b gg.1 m.world
  revert hs
  generalize stepG P _ gg.1 m.world b=s;intro hs h;cases s<;>simp only []at h;all_goals first
    |(simp at h;done)
    |exact pG hs (DF _ _ _ _ _ _ _ _ _ h)
    |exact pG hs (HC _ _ _ _ h)
    |(simp only [CM]at h;subst h;exact hs)
    |(repeat' first
        |(simp at h;done)
        |(simp only [CM]at h;subst h;exact hs)
        |(simp only [CM]at h;subst h;exact pG hs (Il (by assumption)))
        |(simp only [CM]at h;subst h;exact pG hs (NR (by assumption)))
        |split at h)
def Ms(m m' :Machine)(k:Nat)(h:serve P m k= .next m'):m.world.drawn<=m'.world.drawn:=by
 unfold serve at h;simp only []at h;repeat' first
  |(simp at h;done)
  |(simp only [CM]at h;subst h;exact eX _)
  |split at h
def N3(m m' :Machine)(ops:Array MemOp)(h:askOn P m= .machine (.next m') ops):m.world.drawn<=m'.world.drawn:=by
 unfold askOn at h;simp only []at h;repeat' first
  |(simp at h;done)
  |(simp only [Move.machine.injEq]at h;exact pG (dQ (by assumption)) (Ms _ _ _ h.1))
  |(simp only [Move.machine.injEq,CM]at h;obtain⟨rfl,_⟩:=h;(try simp only [Machine.advanceTo]);exact dQ (by assumption))
  |(simp only [Move.machine.injEq,CM]at h;obtain⟨rfl,_⟩:=h;(try simp only [Machine.advanceTo]);exact pG (dQ (by assumption)) (dQ (by assumption)))
  |split at h
def Ju{gs:Array Goroutine}{rest:Rest}{t:Nat}{x:α}(h:s.run P (Machine.advanceTo {world:=w,gs:=gs,rest:=rest} t).world= .ok x w'):w.drawn<=w'.drawn:=by
 have:=dQ h;simpa only [Machine.advanceTo] using this
def Lx(m m' :Machine)(i:Nat)(h:askOn P m= .goroutine m' i):m.world.drawn<=m'.world.drawn:=by
  unfold askOn at h;simp only []at h;repeat' first
    |(simp at h;done)
    |(simp only [Move.goroutine.injEq]at h;rw [<-h.1];(try simp only [Machine.advanceTo]);first
        |exact dQ (by assumption)
        |exact pG (dQ (by assumption)) (dQ (by assumption))
        |exact pG (dQ (by assumption)) (pG (dQ (by assumption)) (dQ (by assumption)))
        |exact pG (dQ (by assumption)) (pG (dQ (by assumption)) (pG (dQ (by assumption)) (dQ (by assumption))))
        |exact pG (dQ (by assumption)) (pG (dQ (by assumption)) (Ju (by assumption)))
        |exact pG (dQ (by assumption)) (pG (dQ (by assumption)) (pG (Ju (by assumption)) (dQ (by assumption)))))
    |split at h
def H2(m:Machine):(∃m₂:Machine,m.world.drawn<=m₂.world.drawn/\ask P m=askOn P m₂)\/(∃o w,ask P m= .machine (.ended o w) #[]):=by
 unfold ask;by_cases hw:m.rest.watch=true
 ·rw [bq hw]
  cases hc:(choose (.extern "collector.look" 2)).run P m.world with
  |halt h w=>exact .inr ⟨_,_,rfl⟩
  |ok k world=>
   have e1:=dQ hc;rcases k with _|_|k
   ·exact .inl ⟨{m with world},e1,rfl⟩
   ·show(∃m₂:Machine,m.world.drawn<=m₂.world.drawn/\(match Go.look P m.gs m.rest world with| .next m=>askOn P m|e=>Move.machine e)=askOn P m₂)\/
     (∃o w,(match Go.look P m.gs m.rest world with| .next m=>askOn P m|e=>Move.machine e)= .machine (.ended o w) #[])
    cases hl:Go.look P m.gs m.rest world with
    |next m₂=>exact .inl ⟨m₂,pG e1 (HC _ _ _ _ hl),rfl⟩
    |ended o w=>exact .inr ⟨o,w,rfl⟩
   ·exact .inl ⟨{m with world},e1,rfl⟩
 ·simp only [hw,qD,lS];exact .inl ⟨m,eX _,rfl⟩
def PH(m m' :Machine)(ops:Array MemOp)(h:move P m= .machine (.next m') ops):m.world.drawn<=m'.world.drawn:=by
 have ha: ∀m1:Machine,m1.world.drawn=m.world.drawn->ask P m1= .machine (.next m') ops->m.world.drawn<=m'.world.drawn:=fun m1 e h=>by
  rcases H2 (P:=P) m1 with⟨m₂,hs,he⟩|⟨o,w,he⟩
  ·rw [he]at h;rw [<-e];exact pG hs (N3 m₂ m' ops h)
  ·rw [he]at h;simp at h
 unfold move at h;repeat' first
  |(simp at h;done)
  |(refine ha _ ?_ h;rfl)
  |split at h
def M0(m m' :Machine)(i:Nat)(h:move P m= .goroutine m' i):m.world.drawn<=m'.world.drawn:=by
 have ha: ∀m1:Machine,m1.world.drawn=m.world.drawn->ask P m1= .goroutine m' i->m.world.drawn<=m'.world.drawn:=fun m1 e h=>by
  rcases H2 (P:=P) m1 with⟨m₂,hs,he⟩|⟨o,w,he⟩
  ·rw [he]at h;rw [<-e];exact pG hs (Lx m₂ m' i h)
  ·rw [he]at h;cases h
 unfold move at h;repeat' first
  |(simp at h;done)
  |(refine ha _ ?_ h;rfl)
  |(simp only [Move.goroutine.injEq]at h;rw [<-h.1];exact eX _)
  |split at h
def Pa(h:step P m= .next m'):m.world.drawn<=m'.world.drawn:=by
 simp only [step,stepT]at h;split at h
 ·rename_i m₁ i hm;exact pG (M0 m m₁ i hm) (Pk m₁ m' i _ h)
 ·rename_i s ops hm;simp only []at h;subst h;exact PH m m' ops hm
def Fe(h:Steps P m m'):m.world.drawn<=m'.world.drawn:=by
 obtain⟨n,hn⟩:=h
 induction n generalizing m with
 |zero=>simp only [runN,CM]at hn;rw [hn];exact eX _
 |succ n ih=>
  simp only [runN]at hn;split at hn
  ·rename_i m1 D;exact pG (Pa D) (ih hn)
  ·rename_i I;exact absurd hn (I _)
def N1{args:Array Value}(h:Calls P f args w R)(ho: ∀w',¬R .outgrown w'):Calls P f args w fun e w' =>R e w' /\w.drawn<=w'.drawn:=fun cs=>by
 obtain⟨e,w',fr,hr,hc,V⟩:=h cs;refine⟨e,w',fr,⟨hr,?_⟩,hc,V⟩
 cases e with
 |outgrown=>exact absurd hr (ho w')
 |returned v=>exact Fe (show Steps P _ _ from hc)
 |panicked c=>exact Fe (show Steps P _ _ from hc)
end
def fw(r:Option Nat):Fence:={fn:=fun _=>True,depth:=none,alive:=false,round:=r}
def nG{r:Option Nat}{n:Nat}{P:Program}{args:Array Value}:CallsIn (fw r) n P f args w R↔Calls P f args w R:=callsIn_wide
def Nx{r:Option Nat}{n:Nat}:(fw r).depth.isSome=true->1<=n:=fun h=>by cases h
structure En where
 P:Program
 N:Fr
 B:Nat->Prop
 w0:World
 S0:SH
 r:Option Nat
def En.base(E:En):Nat:=E.w0.heap.size
def opQ(P:Program)(o:Oper)(a:Act)(hb:Act->World->Prop):Result Next->Prop
 | .ok (.value v) w' =>hb (a.put o.dst v) w'
 | .ok .skip w' =>hb (a.put o.dst undef) w'
 | .ok (.enter f args) w' =>Calls P f args w' fun e w'' => ∃v,e= .returned v/\hb (a.put o.dst v) w''
 | .ok (.round l f tmps assign body) w' =>RoundIn (fw none) 0 P l f tmps assign body w' fun e w'' => ∃v,e= .returned v/\hb (a.put o.dst v) w''
 |_=>False
def MN(P:Program)(o:Oper)(a:Act)(w:World)(hb:Act->World->Prop):Prop:=(∀c,o.op≠ .defer c)/\opQ P o a hb ((execOp a.eval o).run P w)
def Pm{r:Option Nat}{n:Nat}{P:Program}{l:Nat}{tmps:Array Value}{assign body:Code}(h:RoundIn (fw none) 0 P l f tmps assign body w R):RoundIn (fw r) n P l f tmps assign body w R:=
 ⟨trivial,fun c cs _=>h.2 c cs (fun _ hd=>by cases hd)⟩
variable{hb K' :Act->World->Prop}
def Vc{P:Program}(hK: ∀a w,hb a w->K' a w){r:Result Next}(h:opQ P o a hb r):opQ P o a K' r:=by
 cases r with
 |ok n w=>
  cases n<;>simp only [opQ]at h ⊢
  case value=>exact hK _ _ h
  case skip=>exact hK _ _ h
  case enter f args=>exact h.mono fun e w' ⟨v,he,hk⟩=>⟨v,he,hK _ _ hk⟩
  case round l f tmps assign body=>exact h.mono fun e w' ⟨v,he,hk⟩=>⟨v,he,hK _ _ hk⟩
 |halt x w=>simp only [opQ]at h
def qk{P:Program}(hK: ∀a w,hb a w->K' a w)(h:MN P o a w hb):MN P o a w K' :=⟨h.1,Vc hK h.2⟩
variable{hf:Exit->Act->World->Prop}{β:Type}{res:β->Ty}
def n8{P:Program}{r:Option Nat}(hK: ∀a w,hb a w->K' a w)(h:MN P o a w hb):o.wpIn (fw r) 0 P a w K' hf:=by
 obtain⟨hd,h⟩:=h;refine⟨fun _ _=>trivial,?_⟩;rw [Oper.semAt_eq _ _ _ hd];generalize (execOp a.eval o).run P w=res at h
 cases res with
 |ok n w=>
  cases n<;>simp only [opQ]at h<;>simp only [Oper.uponIn]
  case value=>exact hK _ _ h
  case skip=>exact hK _ _ h
  case enter f args=>exact⟨Nx,nG.2 (h.mono fun e w' ⟨v,he,hk⟩=>by subst he;exact hK _ _ hk)⟩
  case round l f tmps assign body=>exact⟨Nx,(Pm h).mono fun e w' ⟨v,he,hk⟩=>by subst he;exact hK _ _ hk⟩
 |halt x w=>simp only [opQ]at h
def ck(E:En)(O:List OE)(G:oz)(o:Oper)(t:Ty):Prop:=
 ∀a w S,kQ w S->dR E.base E.B w S O->cH E.N S a G->
  MN E.P o a w (fun a' w' => ∃v S',a' =a.put o.dst v/\ji sq w S w' S' /\kQ w' S' /\t.p S' v)
structure St(E:En)(O:List OE)(G:oz)(a:Act)(w:World)(S:SH):Prop where
 ext:ji E.B E.w0 E.S0 w S
 sat:kQ w S
 own:dR E.base E.B w S O
 facts:cH E.N S a G
def RG(E:En)(ops:Array Oper)(hf:Exit->Act->World->Prop)(l:List Oper)(O:List OE)(G:oz):Prop:= ∀a w S,St E O G a w S->wpListIn (fw E.r) 0 E.P ops hf l a w
def CG(E:En)(hf:Exit->Act->World->Prop)(c:Code)(O:List OE)(G:oz):Prop:= ∀a w S,St E O G a w S->c.wpIn (fw E.r) 0 E.P hf a w
def AT(E:En)(hf:Exit->Act->World->Prop)(e:Exit)(O:List OE)(G:oz):Prop:= ∀a w S,St E O G a w S->hf e a w
variable{after:Array Edge}{fn:Func}{pos:String}{ts:List Ty}{y:Operand}
section
variable{E:En}{G' :oz}{l:List Oper}
def St.step(h:St E O G a w S)(k:ji sq w S w' S')(hs:kQ w' S')(hd:Nat.blt d E.N.n=true)(hv:t.p S' v):
  St E O ((d,t)::G) (a.put (some d) v) w' S' :=
 ⟨h.ext.step0 k,hs,h.own.ext0 k,(h.facts.mono k.keep).put hd hv⟩
def St.sub(h:St E O G a w S)(k:OZ G' G):St E O G' a w S:=⟨h.ext,h.sat,h.own,h.facts.sub (I3 k)⟩
def RG.of(H:o.guard=none)(h: ∀a w S,St E O G a w S->MN E.P o a w (fun a' w' =>wpListIn (fw E.r) 0 E.P ops hf l a' w')):RG E ops hf (o::l) O G:=fun a w S st=>
 wpListIn_plain H fun _ hK=>n8 hK (h a w S st)
def vC{op:Op}{ty:TypeId}(h:ck E O G ⟨some d,op,ty,pos,after,none⟩ t)(hd:Nat.blt d E.N.n=true)(k:RG E ops hf l O ((d,t)::G)):
  RG E ops hf (⟨some d,op,ty,pos,after,none⟩::l) O G:= .of rfl fun a w S st=>
 qk (fun a' w' ⟨_,_,ha,he,hs,hv⟩=>by subst ha;exact k _ _ _ (st.step he hs hd hv)) (h a w S st.sat st.own st.facts)
def bm(h:AT E hf .normal O G):RG E ops hf [] O G:=fun a w S st=>h a w S st
def au{id:Nat}{l:List Oper}(h:RG E l.toArray hf l O G):CG E hf (.region id l.toArray false) O G:=fun a w S st=>wpIn_region_lit (h a w S st)
def aw{x y:Code}(h:CG E (Exit.then (y.wpIn (fw E.r) 0 E.P hf) hf) x O G):CG E hf (.seq x y) O G:=fun a w S st=>wpIn_seq (h a w S st)
def ax{y:Code}(h:CG E hf y O G):AT E (Exit.then (y.wpIn (fw E.r) 0 E.P hf) hf) .normal O G:=h
def bl(h:AT E hf .normal O G):CG E hf .skip O G:=fun a w S st=>wpIn_skip (h a w S st)
def iN{id:Nat}(h:AT E hf (.exit id) O G):CG E hf (.exit id) O G:=fun a w S st=>wpIn_exit (h a w S st)
def kM(h:AT E hf .ret O G):CG E hf .ret O G:=fun a w S st=>wpIn_ret (h a w S st)
def ET(h:CG E hf c O G')(k:OZ G' G):CG E hf c O G:=fun a w S st=>h a w S (st.sub k)
def bQ{e:Exit}(h:AT E hf e O G')(k:OZ G' G):AT E hf e O G:=fun a w S st=>h a w S (st.sub k)
def qC{c:Operand}{x y:Code}(K:aG E.N G c (tD rB b))(I:b=true->CG E hf x O G)(hy:b=false->CG E hf y O G):CG E hf (.cond c x y) O G:=fun a w S st=>by
 have hv:a.eval c= .bool b:=jN.1 (K S a st.facts);refine wpIn_cond hv ?_
 cases b with
 |true=>exact I rfl a w S st
 |false=>exact hy rfl a w S st
def am{id:Nat}(h:CG E (Exit.inBlock id hf) c O G):CG E hf (.block id c) O G:=fun a w S st=>wpIn_block (h a w S st)
def Ct(r:Option Nat)(P:Program)(c:Code)(hf:Exit->Act->World->Prop)(a:Act)(w:World):Prop:=
 ∀(b:Frame) (k:List Item) (cs:List Frame),b.roundOf=r-> ∃e a' w',hf e a' w' /\ArrivesIn (Machine.fenced P (fw r)) P (lone (b.atR a (.code c:: .inLoop c::k)) cs w) b k cs e a' w'
def RE{r:Option Nat}{n:Nat}:(fw r).room n:=fun _ hd=>by cases hd
def Kc{r:Option Nat}{P:Program}{hf:Exit->Act->World->Prop}(h:Ct r P c hf a w):(Code.loop c).wpIn (fw r) 0 P hf a w:=fun b k cs hro K hr=>
 let⟨e,a',w',hq,harr⟩:=h b k cs hro
 ⟨e,a',w',hq,.of_steps (.one (fenced_calm K hr rfl) stepR_loop) harr⟩
def IA{r:Option Nat}{P:Program}{hf:Exit->Act->World->Prop}(h:c.wpIn (fw r) 0 P (Exit.then (Ct r P c hf) hf) a w):Ct r P c hf a w:=by
 intro b k cs hro;obtain⟨e,a₁,w₁,hq,harr⟩:=h b (.inLoop c::k) cs hro trivial RE
 cases e with
 |normal=>
  obtain⟨e₂,a₂,w₂,hq₂,harr₂⟩:=hq b k cs hro;exact⟨e₂,a₂,w₂,hq₂,.of_steps (StepsIn.trans harr (.one (fenced_calm (n:=0) (F:=fw r) trivial RE rfl) stepR_inLoop)) harr₂⟩
 |exit id=>exact⟨_,a₁,w₁,hq,.pass (x:= .inLoop c) rfl (fun _ _=> .inl (by simp)) harr⟩
 |goto l=>exact⟨_,a₁,w₁,hq,.pass (x:= .inLoop c) rfl (fun _ _=> .inl (by simp)) harr⟩
 |ret=>exact⟨_,a₁,w₁,hq,.pass (x:= .inLoop c) rfl (fun _ _=> .inl (by simp)) harr⟩
 |panic ch=>exact⟨_,a₁,w₁,hq,.pass (x:= .inLoop c) rfl (fun _ _=> .inl (by simp)) harr⟩
 |outgrown=>exact⟨_,a₁,w₁,hq,.pass (x:= .inLoop c) rfl (fun _ _=> .inl (by simp)) harr⟩
def LG(E:En)(hf:Exit->Act->World->Prop)(c:Code)(O:List OE)(G:oz):Prop:= ∀a w S,St E O G a w S->Ct E.r E.P c hf a w
def bE(h:LG E hf c O G):CG E hf (.loop c) O G:=fun a w S st=>Kc (h a w S st)
def lI(h:CG E (Exit.then (Ct E.r E.P c hf) hf) c O G):LG E hf c O G:=fun a w S st=>IA (h a w S st)
def aE(h:LG E hf c O G')(k:OZ G' G):LG E hf c O G:=fun a w S st=>h a w S (st.sub k)
def aT(h:LG E hf c O G):AT E (Exit.then (Ct E.r E.P c hf) hf) .normal O G:=h
def aN{id:Nat}(h:AT E hf (.exit id) O G):AT E (Exit.then hb hf) (.exit id) O G:=h
def ai(h:AT E hf .ret O G):AT E (Exit.then hb hf) .ret O G:=h
def py{id:Nat}(h:AT E hf .ret O G):AT E (Exit.inBlock id hf) .ret O G:=h
def bf{id:Nat}(h:AT E hf .normal O G):AT E (Exit.inBlock id hf) .normal O G:=h
def dY{id:Nat}(h:AT E hf .normal O G):AT E (Exit.inBlock id hf) (.exit id) O G:=fun a w S st=>by
 simp only [Exit.inBlock,mF];exact h a w S st
def cI{id id' :Nat}(Q_:Nat.beq id' id=false)(h:AT E hf (.exit id') O G):AT E (Exit.inBlock id hf) (.exit id') O G:=fun a w S st=>by
 have:id' ≠id:=fun e=>by subst e;simp at Q_
 simp only [Exit.inBlock,this,lS];exact h a w S st
def yw(S:SH):List Ty->List Value->Prop
 |[],[]=>True
 |t::ts,v::vs=>t.p S v/\yw S ts vs
 |_,_=>False
def yw.mono(h:SH.le S S'): ∀{ts:List Ty} {vs:List Value},yw S ts vs->yw S' ts vs
 |[],[],_=>trivial
 |t::_,_::_,⟨D,V⟩=>⟨t.mono h D,yw.mono h V⟩
def yw.length: ∀{ts:List Ty} {vs:List Value},yw S ts vs->vs.length=ts.length
 |[],[],_=>rfl
 |_::_,_::_,⟨_,V⟩=>by simp [yw.length V]
def cN(P:Program)(f:FuncId)(ts:List Ty)(t:Ty):Prop:=
 ∀w S vs,kQ w S->yw S ts vs->Calls P f vs.toArray w fun e w' => ∃v S',e= .returned v/\ji sq w S w' S' /\kQ w' S' /\t.p S' v
def IE(E:En)(t:Ty):Ending->World->Prop:=fun e w' => ∃v S',e= .returned v/\ji E.B E.w0 E.S0 w' S' /\kQ w' S' /\t.p S' v
def wE(k:Nat):List Ty->oz
 |[]=>[]
 |t::ts=>(k,t)::wE (k+1) ts
def HB: ∀(ts:List Ty) (k j:Nat) (t:Ty),look (wE k ts) j=some t-> ∃i,j=k+i/\ts[i]? =some t
 |[],_,_,_,h=>by simp [wE,look]at h
 |u::ts,k,j,t,h=>by
  unfold wE look at h;by_cases K:Nat.beq k j=true
  ·rw [K]at h;exact⟨0,by rw [rm K];rfl,by simpa using h⟩
  ·rw [B6]at K;rw [K]at h;obtain⟨i,D,V⟩:=HB ts (k+1) j t h;exact⟨i+1,by omega,by simpa using V⟩
def yw.h_: ∀{ts:List Ty} {vs:List Value} (_:yw S ts vs) (i:Nat) (t:Ty),ts[i]? =some t-> ∃v,vs[i]? =some v/\t.p S v
 |_::_,v::_,⟨D,_⟩,0,t,h=>⟨v,rfl,by simp at h;rw [<-h];exact D⟩
 |_::ts,_::vs,⟨_,V⟩,i+1,t,h=>by simpa using yw.h_ V i t (by simpa using h)
def qU{vs:List Value}(h:yw S ts vs)(n:Nat)(hn:ts.length<=n):
  cH ⟨n,[]⟩ S {tmps:=vs.toArray++Array.replicate (n-vs.toArray.size) undef,defers:=[]} (wE 0 ts):=by
 have hl:=h.length;refine⟨by simp;omega,rfl,fun j t hj=>?_⟩;obtain⟨i,e,hi⟩:=HB ts 0 j t hj;have e' :j=i:=by omega
 subst e';obtain⟨v,hv,Y⟩:=h.h_ j t hi;have o_:j<vs.length:=(oC.1 hv).1;have:(vs.toArray++Array.replicate (n-vs.toArray.size) undef).getD j undef=v:=by
  rw [Ka,Array.getElem?_append_left (by simpa using o_)];simp [hv]
 rw [this];exact Y
def LB{P:Program}(Q:P.funcs[f]? =some fn)(K:fn.body=some c)(hn:ts.length<=fn.ntmps)(h: ∀w0 S0,CG ⟨P,⟨fn.ntmps,[]⟩,sq,w0,S0,none⟩ (bodyPost P fn (IE ⟨P,⟨fn.ntmps,[]⟩,sq,w0,S0,none⟩ t)) c [] (wE 0 ts)):cN P f ts t:=by
 intro w S vs hs hv;exact nG.1 (GF (F:=fw none) (n:=0) Q K trivial (h w S _ w S ⟨ji.refl _ _ _,hs,trivial,qU hv _ hn⟩))
def pZ(P:Program)(fn:Func)(k:Nat)(h:fn.results= #[.tmp k])(tmps:Array Value)(w:World):(results fn tmps).run P w= .ok (tmps.getD k undef) w:=by
 simp [results,h]
def aD{P:Program}{N:Nat}{B:Nat->Prop}{w0:World}{S0:SH}(hr:fn.results= #[.tmp k])(hk:look G k=some t):
  AT ⟨P,⟨N,[]⟩,B,w0,S0,none⟩ (bodyPost P fn (IE ⟨P,⟨N,[]⟩,B,w0,S0,none⟩ t)) .ret O G:=fun _ _ S st=>
 ⟨st.facts.defers,_,pZ P fn k hr _ _,_,S,rfl,st.ext,st.sat,st.facts.h_ k t hk⟩
def tT(ts:List Ty):Ty where
 p:=fun S v=> ∃vs,v= .tuple vs.toArray/\yw S ts vs
 mono:=fun h k=>by obtain⟨vs,e,k⟩:=k;exact⟨vs,e,yw.mono h k⟩
def F5(P:Program)(fn:Func)(j k:Nat)(h:fn.results= #[.tmp j,.tmp k])(tmps:Array Value)(w:World):(results fn tmps).run P w= .ok (.tuple #[tmps.getD j undef,tmps.getD k undef]) w:=by
 simp [results,h]
def ff{P:Program}{N:Nat}{B:Nat->Prop}{w0:World}{S0:SH}{u:Ty}(hr:fn.results= #[.tmp j,.tmp k])(hj:look G j=some t)(hk:look G k=some u):
  AT ⟨P,⟨N,[]⟩,B,w0,S0,none⟩ (bodyPost P fn (IE ⟨P,⟨N,[]⟩,B,w0,S0,none⟩ (tT [t,u]))) .ret O G:=fun _ _ S st=>
 ⟨st.facts.defers,_,F5 P fn j k hr _ _,_,S,rfl,st.ext,st.sat,[_,_],rfl,st.facts.h_ j t hj,st.facts.h_ k u hk,trivial⟩
def C4(P:Program)(fn:Func)(i j k:Nat)(h:fn.results= #[.tmp i,.tmp j,.tmp k])(tmps:Array Value)(w:World):(results fn tmps).run P w= .ok (.tuple #[tmps.getD i undef,tmps.getD j undef,tmps.getD k undef]) w:=by
 simp [results,h]
def tY{P:Program}{N:Nat}{B:Nat->Prop}{w0:World}{S0:SH}{s u:Ty}(hr:fn.results= #[.tmp i,.tmp j,.tmp k])(hi:look G i=some s)(hj:look G j=some t)(hk:look G k=some u):
  AT ⟨P,⟨N,[]⟩,B,w0,S0,none⟩ (bodyPost P fn (IE ⟨P,⟨N,[]⟩,B,w0,S0,none⟩ (tT [s,t,u]))) .ret O G:=fun _ _ S st=>
 ⟨st.facts.defers,_,C4 P fn i j k hr _ _,_,S,rfl,st.ext,st.sat,[_,_,_],rfl,st.facts.h_ i s hi,st.facts.h_ j t hj,st.facts.h_ k u hk,trivial⟩
def yb(P:Program)(fn:Func)(h:fn.results= #[])(tmps:Array Value)(w:World):(results fn tmps).run P w= .ok (.tuple #[]) w:=by
 simp [results,h]
end
variable{dst:Option Tmp}{xt yt:TypeId}
section
variable{E:En}{ty:TypeId}
def ck.of_run(h: ∀a w S,kQ w S->dR E.base E.B w S O->cH E.N S a G->
  ∃v w' S',(execOp a.eval o).run E.P w= .ok (.value v) w' /\ji sq w S w' S' /\kQ w' S' /\t.p S' v)(hd: ∀c,o.op≠ .defer c:=by intro c h;cases h):ck E O G o t:=fun a w S hs ho Q=>by
 obtain⟨v,w',S',hr,he,hs',hv⟩:=h a w S hs ho Q;refine⟨hd,?_⟩;rw [hr];exact⟨v,S',rfl,he,hs',hv⟩
def ck.of_pure(h: ∀a w S,kQ w S->dR E.base E.B w S O->cH E.N S a G-> ∃v,(execOp a.eval o).run E.P w= .ok (.value v) w/\t.p S v)(hd: ∀c,o.op≠ .defer c:=by intro c h;cases h):ck E O G o t:=
 .of_run (fun a w S hs ho Q=>let⟨v,hr,hv⟩:=h a w S hs ho Q;⟨v,w,S,hr,ji.refl _ _ _,hs,hv⟩) hd
def bH(I:aG E.N G x t):ck E O G ⟨dst,.move x,ty,pos,after,g⟩ t:=
 .of_pure fun a _ S _ _ Q=>⟨a.eval x,rfl,I S a Q⟩
def bL(I:aG E.N G x t):ck E O G ⟨dst,.assign x,ty,pos,after,g⟩ t:=
 .of_pure fun a _ S _ _ Q=>⟨a.eval x,rfl,I S a Q⟩
def A9{c:Operand}(hc:aG E.N G c (tD rB b))(I:b=true->aG E.N G x t)(hy:b=false->aG E.N G y t):ck E O G ⟨dst,.pick c x y,ty,pos,after,g⟩ t:=
 .of_pure fun a _ S _ _ Q=>by
  have D:a.eval c= .bool b:=jN.1 (hc S a Q);refine⟨if b then a.eval x else a.eval y,by simp [execOp,D,asBool],?_⟩
  cases b with
  |true=>exact I rfl S a Q
  |false=>exact hy rfl S a Q
section
variable{k:IntKind}{m n:Int}
def NP{P:Program}{op:BinOp}{xt:TypeId}{x y:Operand}{k k' :IntKind}{m n:Int}:(eqGuard op xt x y (.int k m) (.int k' n)).run P w= .ok () w:=by
 unfold eqGuard;cases op<;>rfl
def As{op:BinOp}(I:aG E.N G x (tD (rI k) m))(hy:aG E.N G y (tD (rI k) n))(hv: ∀P w,(binOp op xt (.int k m) (.int k n)).run P w= .ok v w)(Y: ∀S,t.p S v):
  ck E O G ⟨dst,.binOp op xt x y yt,ty,pos,after,g⟩ t:=
 .of_pure fun a w S _ _ Q=>by
  have D:a.eval x= .int k m:=gm.1 (I S a Q);have V:a.eval y= .int k n:=gm.1 (hy S a Q);refine⟨v,?_,Y S⟩;simp [execOp,D,V,NP,hv]
def nT(I:aG E.N G x (tD (rI k) m))(hy:aG E.N G y (tD (rI k) n)):ck E O G ⟨dst,.binOp .add xt x y yt,ty,pos,after,g⟩ (tD (rI k) (k.wrap (m+n))):=
 As I hy (fun _ _=>by simp [binOp,Op.intArith]) (fun _=>gm.2 rfl)
def ij(I:aG E.N G x (tD (rI k) m))(hy:aG E.N G y (tD (rI k) n)):ck E O G ⟨dst,.binOp .sub xt x y yt,ty,pos,after,g⟩ (tD (rI k) (k.wrap (m-n))):=
 As I hy (fun _ _=>by simp [binOp,Op.intArith]) (fun _=>gm.2 rfl)
def gA(I:aG E.N G x (tD (rI k) m))(hy:aG E.N G y (tD (rI k) n)):ck E O G ⟨dst,.binOp .lss xt x y yt,ty,pos,after,g⟩ (tD rB (decide (m<n))):=
 As I hy (fun _ _=>by simp [binOp,Op.intCmp]) (fun _=>jN.2 rfl)
def kZ(I:aG E.N G x (tD (rI k) m))(hy:aG E.N G y (tD (rI k) n)):ck E O G ⟨dst,.binOp .leq xt x y yt,ty,pos,after,g⟩ (tD rB (decide (m<=n))):=
 As I hy (fun _ _=>by simp [binOp,Op.intCmp]) (fun _=>jN.2 rfl)
def fR(I:aG E.N G x (tD (rI k) m))(hy:aG E.N G y (tD (rI k) n)):ck E O G ⟨dst,.binOp .gtr xt x y yt,ty,pos,after,g⟩ (tD rB (decide (n<m))):=
 As I hy (fun _ _=>by simp [binOp,Op.intCmp]) (fun _=>jN.2 rfl)
def eT(I:aG E.N G x (tD (rI k) m))(hy:aG E.N G y (tD (rI k) n)):ck E O G ⟨dst,.binOp .geq xt x y yt,ty,pos,after,g⟩ (tD rB (decide (n<=m))):=
 As I hy (fun _ _=>by simp [binOp,Op.intCmp]) (fun _=>jN.2 rfl)
def fc(I:aG E.N G x (tD (rI k) m))(hy:aG E.N G y (tD (rI k) n)):ck E O G ⟨dst,.binOp .eql xt x y yt,ty,pos,after,g⟩ (tD rB (m==n)):=
 As I hy (fun _ _=>by simp [binOp,Op.intCmp]) (fun _=>jN.2 rfl)
def jV(I:aG E.N G x (tD (rI k) m))(hy:aG E.N G y (tD (rI k) n)):ck E O G ⟨dst,.binOp .neq xt x y yt,ty,pos,after,g⟩ (tD rB (m !=n)):=
 As I hy (fun _ _=>by simp [binOp,Op.intCmp]) (fun _=>jN.2 rfl)
def aaE(I:aG E.N G x (tD (rI k) m)):ck E O G ⟨dst,.unOp .neg xt x,ty,pos,after,g⟩ (tD (rI k) (k.wrap (0-m))):=
 .of_pure fun a w S _ _ Q=>by
  have D:a.eval x= .int k m:=gm.1 (I S a Q);exact⟨.int k (k.wrap (0-m)),by simp [execOp,D,Op.unary,Op.intArith],gm.2 rfl⟩
def gz(I:aG E.N G x (tD rB b)):ck E O G ⟨dst,.unOp .not xt x,ty,pos,after,g⟩ (tD rB (!b)):=
 .of_pure fun a w S _ _ Q=>by
  have D:a.eval x= .bool b:=jN.1 (I S a Q);exact⟨.bool (!b),by simp [execOp,D,Op.unary],jN.2 rfl⟩
def Xz{st dt:TypeId}{k' :IntKind}{d:TypeDesc}(hs:E.P.underlying st=some d)(hd:E.P.underlying dt=some (.int k'))(I:aG E.N G x (tD (rI k) m)):
  ck E O G ⟨dst,.convert st dt x,ty,pos,after,g⟩ (tD (rI k') (k'.wrap m)):=
 .of_pure fun a w S _ _ Q=>by
  have D:a.eval x= .int k m:=gm.1 (I S a Q);refine⟨.int k' (k'.wrap m),?_,gm.2 rfl⟩;simp only [execOp,D,convert,uc,lc hs,lc hd,vm];cases d<;>simp [Conv.intToInt]
end
def yc{P:Program}{t:TypeId}(Y:P.underlying t=some .bool)(d:Nat)(b c:Bool)(w:World):(Op.equalIn (d+1) t (.bool b) (.bool c)).run P w= .ok (b==c) w:=by
 simp [Op.equalIn,lc Y]
def C5{P:Program}{t:TypeId}{x y:Value}(K: ∀d,(Op.equalIn (d+1) t x y).run P w= .ok b w):(Op.equal t x y).run P w= .ok b w:=K 9999
section
def Xy{c:Bool}(Y:E.P.underlying xt=some .bool)(I:aG E.N G x (tD rB b))(hy:aG E.N G y (tD rB c)):ck E O G ⟨dst,.binOp .eql xt x y yt,ty,pos,after,g⟩ (tD rB (b==c)):=
 .of_pure fun a w S _ _ Q=>by
  have D:a.eval x= .bool b:=jN.1 (I S a Q);have V:a.eval y= .bool c:=jN.1 (hy S a Q);exact⟨.bool (b==c),by simp [execOp,D,V,eqGuard,binOp,C5 (fun d=>yc Y d b c w)],jN.2 rfl⟩
def Xx{c:Bool}(Y:E.P.underlying xt=some .bool)(I:aG E.N G x (tD rB b))(hy:aG E.N G y (tD rB c)):ck E O G ⟨dst,.binOp .neq xt x y yt,ty,pos,after,g⟩ (tD rB (b !=c)):=
 .of_pure fun a w S _ _ Q=>by
  have D:a.eval x= .bool b:=jN.1 (I S a Q);have V:a.eval y= .bool c:=jN.1 (hy S a Q);exact⟨.bool (b !=c),by simp [execOp,D,V,eqGuard,binOp,C5 (fun d=>yc Y d b c w)];cases b<;>cases c<;>rfl,jN.2 rfl⟩
def Vd{op:BinOp}{s u:ru}(I:aG E.N G x (tD rS s))(hy:aG E.N G y (tD rS u))(hv: ∀P w,(Op.stringOp op ⟨s.toArray⟩ ⟨u.toArray⟩).run P w= .ok (.bool b) w)(H: ∀P w,(eqGuard op xt x y (.string ⟨s.toArray⟩) (.string ⟨u.toArray⟩)).run P w= .ok () w)(K: ∀P w,(binOp op xt (.string ⟨s.toArray⟩) (.string ⟨u.toArray⟩)).run P w=(Op.stringOp op ⟨s.toArray⟩ ⟨u.toArray⟩).run P w):
  ck E O G ⟨dst,.binOp op xt x y yt,ty,pos,after,g⟩ (tD rB b):=
 .of_pure fun a w S _ _ Q=>by
  have D:a.eval x= .string ⟨s.toArray⟩:=z6.1 (I S a Q);have V:a.eval y= .string ⟨u.toArray⟩:=z6.1 (hy S a Q);refine⟨.bool b,?_,jN.2 rfl⟩;simp [execOp,D,V,H,K,hv]
def Gs{s u:ru}(I:aG E.N G x (tD rS s))(hy:aG E.N G y (tD rS u)):ck E O G ⟨dst,.binOp .eql xt x y yt,ty,pos,after,g⟩ (tD rB (s==u)):=
 Vd I hy (fun _ _=>by simp [Op.stringOp]) (fun _ _=>rfl) (fun _ _=>rfl)
def Xw{s u:ru}(I:aG E.N G x (tD rS s))(hy:aG E.N G y (tD rS u)):ck E O G ⟨dst,.binOp .neq xt x y yt,ty,pos,after,g⟩ (tD rB (!(s==u))):=
 Vd I hy (fun _ _=>by simp [Op.stringOp]) (fun _ _=>rfl) (fun _ _=>rfl)
end
end
def VA:TypeDesc->Bool
 | .struct _| .array _ _=>true
 |_=>false
structure TI(P:Program)(T:TypeId)(sz bytes:Nat)(agg:Bool)(z:List Value):Prop where
 info:(P.info? T).map (fun i=>(i.zero.map (·.cells.toList),i.size,i.bytes))=some (some z,sz,bytes)
 ag:(P.underlying T).map VA=some agg
variable{T:TypeId}{z:List Value}
section
variable{P:Program}{sz:Nat}{agg:Bool}
def TI.get(h:TI P T sz bytes agg z): ∃i zv,P.info? T=some i/\i.size=sz/\i.bytes=bytes/\i.zero=some zv/\zv.cells=z.toArray:=by
 have:=h.info
 cases hi:P.info? T with
 |none=>rw [hi]at this;simp at this
 |some i=>
  rw [hi]at this;simp only [GG,LO,Prod.mk.injEq,CN]at this;obtain⟨⟨zv,D,V⟩,Z,h4⟩:=this;exact⟨i,zv,rfl,Z,h4,D,by rw [<-V]⟩
def TI.sizeOf(h:TI P T sz bytes agg z)(w:World):(Go.sizeOf T).run P w= .ok sz w:=by
 obtain⟨i,zv,D,V,_⟩:=h.get;simp [Go.sizeOf,typeInfo,D,V]
def TI.isAgg(h:TI P T sz bytes agg z)(w:World):(Go.isAgg T).run P w= .ok agg w:=by
 have:=h.ag
 cases hi:P.underlying T with
 |none=>rw [hi]at this;simp at this
 |some d=>
  rw [hi]at this;simp only [GG,LO]at this;simp only [Go.isAgg,uc,lc hi,vm];rw [<-this];cases d<;>simp [VA]
def TI.zero(h:TI P T sz bytes agg z)(w:World): ∃zv,(zeroValue T).run P w= .ok zv w/\zv.cells=z.toArray:=by
 obtain⟨i,zv,D,_,_,h4,h5⟩:=h.get;exact⟨zv,by simp [zeroValue,typeInfo,D,h4],h5⟩
end
def kL(b off i:Nat):(⟨b,off,none⟩:Addr).add i=⟨b,off+i,none⟩:=by
 unfold Addr.add;split
 ·simp_all
 ·rfl
def Bk{b:Nat}{c:Array Value}(h:w.heap[b]? =some (.cells c T fr))(i:Nat):w.cell? ⟨b,i,none⟩=c[i]? :=by
 simp [World.cell?,h]
def Es{P:Program}{b n:Nat}{c:Array Value}(h:w.heap[b]? =some (.cells c T fr))(hcs:(c.toList.drop off).take n=cs)(hl:cs.length=n):
  (loadCells ⟨b,off,none⟩ n).run P w= .ok cs.toArray w:=by
 rw [<-hl];refine run_loadCells_list w ⟨b,off,none⟩ cs fun j v hv=>?_;rw [kL,Bk h];have hj:j<cs.length:=(oC.1 hv).1;rw [<-hcs,zT (by omega),xT]at hv;simpa using hv
def nv{P:Program}{b:Nat}{c:Array Value}{U:TypeId}{sz:Nat}{agg:Bool}(ti:TI P U sz bytes agg z)(h:w.heap[b]? =some (.cells c T fr)){r:Rp α}(k_:r.sz=sz)(hag:r.agg=agg){x:α}(I:r.rc S ((c.toList.drop off).take r.sz) x):
  (loadVar U ⟨b,off,none⟩).run P w= .ok (r.val ((c.toList.drop off).take r.sz)) w:=by
 have hl:=r.len I;subst k_;subst hag;simp only [loadVar,uc,ti.isAgg,vm]
 cases ha:r.agg with
 |true=>simp [ti.sizeOf,Es h rfl hl,Rp.val,ha]
 |false=>
  have D:=r.sc ha;have hcell:w.cell? ⟨b,off,none⟩=some (((c.toList.drop off).take r.sz).headD undef):=by
   rw [Bk h];rw [D]at hl ⊢
   cases hd:c.toList.drop off with
   |nil=>rw [hd]at hl;simp at hl
   |cons v rest=>
    have:(c.toList.drop off)[0]? =some v:=by rw [hd];rfl
    rw [xT]at this;simpa using this
  simp [hcell,Rp.val,ha]
variable{ats:Array TypeId}
section
variable{E:En}{ty:TypeId}
def eJ{r:Rp α}{x:α}{U:TypeId}{p:Operand}{sz:Nat}{agg:Bool}(ti:TI E.P U sz bytes agg z)(k_:r.sz=sz)(hag:r.agg=agg)(hp:aG E.N G p (aY r x)):
  ck E O G ⟨dst,.load U p,ty,pos,after,g⟩ (tD r x):=
 .of_pure fun a w S hs _ Q=>by
  obtain⟨b,off,c,T,fr,D,V,Z⟩:=hp S a Q;obtain⟨c',h4,h5⟩:=hs.part V (r.len Z);rw [<-h5]at Z;refine⟨r.val ((c'.toList.drop off).take r.sz),?_,_,rfl,Z⟩;simp [execOp,D,Instr.loadAt,Instr.sureAddr,nv ti h4 k_ hag Z]
def R4(s:ru):(ByteArray.mk s.toArray).size=s.length:=by simp [ByteArray.size]
def iY{r:Rp α}{t:TypeId}(Y:E.P.underlying t=some (.slice e))(I:aG E.N G x (tD (eW r) xs)):
  ck E O G ⟨dst,.call ⟨.builtin .len,#[x],#[t]⟩,ty,pos,after,g⟩ (tD (rI .i64) (xs.length:Int)):=
 .of_pure fun a w S _ _ Q=>by
  obtain⟨ad,cap,D,_⟩:=oV.1 (I S a Q);refine⟨.int .i64 xs.length,?_,gm.2 rfl⟩;simp [execOp,resolve,invoke,builtin,Builtin.len_,lc Y,D,goInt]
def Dk{s:ru}{t:TypeId}(Y:E.P.underlying t=some .string)(I:aG E.N G x (tD rS s)):
  ck E O G ⟨dst,.call ⟨.builtin .len,#[x],#[t]⟩,ty,pos,after,g⟩ (tD (rI .i64) (s.length:Int)):=
 .of_pure fun a w S _ _ Q=>by
  have D:a.eval x= .string ⟨s.toArray⟩:=z6.1 (I S a Q);refine⟨.int .i64 s.length,?_,gm.2 rfl⟩;simp [execOp,resolve,invoke,builtin,Builtin.len_,lc Y,D,goInt,R4]
def dm{α:Type}(xs:List α)(i:Int):Option α:=if 0<=i then xs[i.toNat]? else none
def bR(xs:List α)(i:Nat):dm xs (i:Int)=xs[i]? :=by simp [dm]
def SN{r:Rp α}{a:Option Addr}(h:Mh r S a xs){x:α}(I:xs[i]? =some x):
  ∃b off c T fr,a=some ⟨b,off,none⟩/\S b=some (.cells c T fr)/\r.rc S ((c.toList.drop (off+i*r.sz)).take r.sz) x:=by
 rcases h with rfl|⟨b,off,c,T,fr,e1,e2,e3⟩
 ·simp at I
 ·refine⟨b,off,c,T,fr,e1,e2,?_⟩;have h:=Gn e3 I;have hi:i<xs.length:=(oC.1 I).1;rw [BF,B5,vE]at h;have:min r.sz (xs.length*r.sz-i*r.sz)=r.sz:=by
   rw [<-Nat.sub_mul];have:1*r.sz<=(xs.length-i)*r.sz:=FW _ (by omega);omega
  rw [this]at h;exact h
def aS{r:Rp α}{y:α}{ix:Operand}{t:TypeId}{k:IntKind}{i:Int}{sz:Nat}{agg:Bool}(Y:E.P.underlying t=some (.slice e))(ti:TI E.P e sz bytes agg z)(k_:r.sz=sz)(I:aG E.N G x (tD (eW r) xs))(hi:aG E.N G ix (tD (rI k) i))(hy:dm xs i=some y):
  ck E O G ⟨dst,.indexAddr t x ix,ty,pos,after,g⟩ (aY r y):=
 .of_pure fun a w S _ _ Q=>by
  obtain⟨ad,cap,D,_,_,V⟩:=oV.1 (I S a Q);have Z:a.eval ix= .int k i:=gm.1 (hi S a Q);have h0:0<=i:=by unfold dm at hy;split at hy;assumption;cases hy
  have hy' :xs[i.toNat]? =some y:=by unfold dm at hy;rw [bq h0]at hy;exact hy
  have o_:i.toNat<xs.length:=(oC.1 hy').1;obtain⟨b,off,c,T,fr,e1,e2,e3⟩:=SN V hy';subst e1;refine⟨.pointer (some ⟨b,off+i.toNat*r.sz,none⟩),?_,b,_,c,T,fr,rfl,e2,e3⟩;have hc:0<=i/\i<(xs.length:Int):=⟨h0,by omega⟩;simp [execOp,D,Z,Instr.indexAt,asIntOf,lc Y,hc,ti.sizeOf,kL,k_]
def mT{α β:Type}(r:Rp α)(off:Nat)(q:Rp β)(get:α->β):Prop:= ∀S cs x,r.rc S cs x->q.rc S ((cs.drop off).take q.sz) (get x)
def cb(P:Program)(T:TypeId)(i:Nat):Option (Nat×Nat):=
 match P.underlying T with
 |some (.struct fs)=>(fs[i]?).bind fun f=>(P.info? f.type).map fun q=>(f.offset,q.size)
 |_=>none
def Et{P:Program}{sz:Nat}(h:cb P T i=some (off,sz)): ∃fs f,P.underlying T=some (.struct fs)/\fs[i]? =some f/\f.offset=off/\ ∀w,(sizeOf f.type).run P w= .ok sz w:=by
 unfold cb at h;split at h
 ·rename_i fs hu
  cases Q:fs[i]? with
  |none=>rw [Q]at h;simp at h
  |some f=>
   rw [Q]at h
   cases hq:P.info? f.type with
   |none=>simp [hq]at h
   |some q=>
    simp [hq]at h;exact⟨fs,f,hu,Q,h.1,fun w=>by simp [sizeOf,typeInfo,hq,h.2]⟩
 ·cases h
def dP{r:Rp α}{q:Rp β}{get:α->β}{x:α}{sz:Nat}{p:Operand}(Q:cb E.P T i=some (off,sz))(h0:Nat.beq sz 0=false)(hq:mT r off q get)(hoff:Nat.ble (off+q.sz) r.sz=true)(hp:aG E.N G p (aY r x)):ck E O G ⟨dst,.fieldAddr T p i,ty,pos,after,g⟩ (aY q (get x)):=
 .of_pure fun a w S _ _ hF=>by
  obtain⟨b,o,c,U,fr,D,V,Z⟩:=hp S a hF;obtain⟨fs,f,e1,e2,e3,e4⟩:=Et Q;have h0' :sz≠0:=fun e=>by subst e;simp at h0
  have hoff' :off+q.sz<=r.sz:=rx hoff;refine⟨.pointer (some ⟨b,o+off,none⟩),?_,b,_,c,U,fr,rfl,V,?_⟩
  ·simp [execOp,D,Instr.fieldAt,lc e1,e2,Instr.sureAddr,fieldPlace,e4,h0',e3,kL]
  ·have:=hq S _ x Z;rw [BF,B5,vE,Bq (by omega)]at this;exact this
def af(P:Program)(f:FuncId):Bool:=
 match P.funcs[f]? with
 |some fn=> !(fn.name== "runtime.NumGoroutine")&&fn.body.isSome
 |none=>false
def gT{P:Program}(h:af P f=true)(args:Array Value)(w:World):(callFunc f args).run P w= .ok (.enter f args) w:=by
 unfold af at h
 cases Q:P.funcs[f]? with
 |none=>rw [Q]at h;cases h
 |some fn=>
  rw [Q]at h;simp only [jJ,FS]at h;have D:fn.name≠ "runtime.NumGoroutine" :=by simpa using h.1
  have V:fn.body≠none:=fun e=>by rw [e]at h;simp at h
  simp [callFunc,Q,D,V]
def k5(N:Fr)(G:oz):List Operand->List Ty->Prop
 |[],[]=>True
 |x::xs,t::ts=>aG N G x t/\k5 N G xs ts
 |_,_=>False
def k5.tys{N:Fr}(hF:cH N S a G): ∀{xs:List Operand} {ts:List Ty},k5 N G xs ts->yw S ts (xs.map a.eval)
 |[],[],_=>trivial
 |_::_,_::_,⟨D,V⟩=>⟨D S a hF,k5.tys hF V⟩
def cq{xs:List Operand}(hc:af E.P f=true)(hs:cN E.P f ts t)(I:k5 E.N G xs ts):
  ck E O G ⟨dst,.call ⟨.value (.func f),xs.toArray,ats⟩,ty,pos,after,g⟩ t:=fun a w S hS _ hF=>by
 have hr:(execOp a.eval ⟨dst,.call ⟨.value (.func f),xs.toArray,ats⟩,ty,pos,after,g⟩).run E.P w= .ok (.enter f (xs.map a.eval).toArray) w:=by
  simp [execOp,resolve,Act.eval,Deferred.ofValue,invoke,gT hc]
 refine⟨fun c h=>(by cases h),?_⟩;rw [hr];exact(hs w S _ hS (I.tys hF)).mono fun e w' ⟨v,S',he,D,V,Z⟩=>⟨v,he,v,S',rfl,D,V,Z⟩
end
def qn{o:Obj}(h:k<w.heap.size):(w.alloc o).heap[k]? =w.heap[k]? :=RowKit.Below.heap_alloc w o k h
def SH.set(S:SH)(b:Nat)(o:Obj):SH:=fun k=>if k=b then some o else S k
def pE(S:SH)(b:Nat)(o:Obj):S.set b o b=some o:=bq rfl
def uz(S:SH){b:Nat}(o:Obj)(h:k≠b):S.set b o k=S k:=aZ h
def yx{b:Nat}{o:Obj}(h: ∀q,S b=some q->Ig q o):SH.le S (S.set b o):=fun k q hq=>by
 by_cases hk:k=b
 ·subst hk;exact⟨o,pE _ _ _,h q hq⟩
 ·exact⟨q,by rw [uz _ _ hk];exact hq,wy q⟩
def kQ.set(h:kQ w S){b:Nat}{o:Obj}(D:w.heap[b]? =some o')(V:Ig o o')(Z: ∀q,S b=some q->Ig q o):kQ w (S.set b o):=by
 refine⟨fun k q hq=>?_,fun p hp=>?_,fun w' hw' =>h.tb w' fun k q hq=>?_⟩
 ·by_cases hk:k=b
  ·subst hk;rw [pE]at hq;cases hq;exact⟨o',D,V⟩
  ·rw [uz _ _ hk]at hq;exact h k q hq
 ·obtain⟨c,T,fr,g1,g2⟩:=h.gl p hp;by_cases hk:p.1=b
  ·subst hk;obtain⟨d,hd⟩:=Z _ g1;refine⟨_,T,fr,by rw [pE,hd],?_⟩;rw [List.toList_toArray,Bu ?_]
   ·exact g2
   ·have:=congrArg List.length g2;rw [Br]at this;omega
  ·exact⟨c,T,fr,by rw [uz _ _ hk];exact g1,g2⟩
 ·by_cases hk:k=b
  ·subst hk;obtain⟨o1,g1,g2⟩:=hw' k o (pE _ _ _);exact⟨o1,g1,Jo (Z q hq) g2⟩
  ·exact hw' k q (by rw [uz _ _ hk];exact hq)
def gb(o:Obj)(hs:kQ w S):ji sq w S (w.alloc o) S/\kQ (w.alloc o) S/\S w.heap.size=none:=by
 refine⟨⟨rfl,rfl,rfl,eX _,by simp,fun k hk _=>qn hk,SH.le_refl _,fun _ _ _=>rfl⟩,hs.same fun b q K=>qn (hs.lt K),?_⟩
 cases h:S w.heap.size with
 |none=>rfl
 |some q=>have:=hs.lt h;omega
def xA(o:Obj)(hs:kQ w S):ji sq w S (w.alloc o) (S.set w.heap.size o)/\kQ (w.alloc o) (S.set w.heap.size o):=by
 obtain⟨D,V,Z⟩:=gb o hs;refine⟨⟨rfl,rfl,rfl,eX _,by simp,fun k hk _=>qn hk,yx fun q hq=>(by rw [Z]at hq;cases hq),fun k hk _=>uz _ _ (by omega)⟩,V.set (xU w o) (wy o) fun q hq=>by rw [Z]at hq;cases hq⟩
def AU(hs:kQ w S):ji sq w S w.drew S/\kQ w.drew S:=⟨⟨rfl,rfl,rfl,Nat.le_succ _,eX _,fun _ _ _=>rfl,SH.le_refl _,fun _ _ _=>rfl⟩,hs.same fun _ _ _=>rfl⟩
def ak(l:Option Nat)(cap n:Nat):Value:=
 match l with
 |none=> .slice none 0 0
 |some b=> .slice (some ⟨b,0,none⟩) n cap
def B2(w:World)(T:TypeId)(sz:Nat)(l:Option Nat)(cap n:Nat)(cells:List Value):Prop:=
 match l with
 |none=>n=0/\cells=[]
 |some b=> ∃cur,w.heap[b]? =some (.cells cur T (0,0))/\n<=cap/\cap<=maxLen/\cur.size=cap*sz/\cur.toList.take (n*sz)=cells
def AP{α:Type}(m:Bool)(r:Rp α)(T:TypeId)(l:Option Nat)(cap:Nat)(xs:List α)(w:World)(S:SH):Prop:=
 ∃cells,B2 w T r.sz l cap xs.length cells/\vq r S cells xs/\ ∀b,l=some b->S b=if m then some (.cells cells.toArray T (0,0))else none
def B2.lt{sz b n:Nat}(h:B2 w T sz (some b) cap n cells):b<w.heap.size:=by
 obtain⟨cur,D,_⟩:=h;exact(s9.1 D).1
def B2.ext{sz n:Nat}(h:B2 w T sz l cap n cells)(k: ∀b,l=some b->w'.heap[b]? =w.heap[b]?):B2 w' T sz l cap n cells:=by
 cases l with
 |none=>exact h
 |some b=>
  obtain⟨cur,D,V⟩:=h;exact⟨cur,by rw [k b rfl];exact D,V⟩
def nU{α:Type}(m:Bool)(r:Rp α)(T:TypeId)(l:Option Nat)(cap:Nat)(xs:List α):OE where
 fp:=fun k=>l=some k
 p:=AP m r T l cap xs
 here:=by
  intro w S h k hk;subst hk;obtain⟨cells,D,_⟩:=h;exact D.lt
 kept:=by
  intro C w w' S S' h k hC;obtain⟨cells,D,V,Z⟩:=h;refine⟨cells,D.ext fun b K=>?_,u3 k.keep V,fun b K=>?_⟩
  ·subst K;exact k.heap b D.lt (hC b rfl)
  ·subst K;rw [k.old b D.lt (hC b rfl)];exact Z b rfl
abbrev fa{α:Type}(r:Rp α)(T:TypeId)(l:Option Nat)(cap:Nat)(xs:List α):OE:=nU false r T l cap xs
abbrev dM{α:Type}(r:Rp α)(T:TypeId)(l:Option Nat)(cap:Nat)(xs:List α):OE:=nU true r T l cap xs
def nH{α:Type}(xs ys:List α):Option (List α):=if xs.length+ys.length<=68719476736 then some (xs++ys)else none
variable{zs:List α}
def Ws(h:nH xs ys=some zs):zs=xs++ys/\xs.length+ys.length<=68719476736:=by
 unfold nH at h;split at h
 ·exact⟨by simpa using h.symm,by assumption⟩
 ·cases h
variable{news:List Value}
def By{P:Program}{t tx ty:TypeId}{i:TypeInfo}(Y:P.underlying t=some (.slice e))(hi:P.info? e=some i){g sLen sCap:Nat}{cur:Array Value}(H:w.heap[g]? =some (.cells cur e (0,0))){x:Value}{n:Nat}(hs:Src P i.size tx x n news w)(hroom:sLen+n<=sCap)(hfit:sLen*i.size+news.length<=cur.size):
  (Builtin.append_ #[t,tx] ty #[.slice (some ⟨g,0,none⟩) sLen sCap,x]).run P w=
   .ok (.slice (some ⟨g,0,none⟩) (sLen+n) sCap) (w.setRow g (cur.toList.take (sLen*i.size)++news++cur.toList.drop (sLen*i.size+news.length)).toArray):=by
 have hst:=run_storeCells_at P g (sLen*i.size) e news 0 cur w H (by simpa using hfit) hs.one;simp only [wV]at hst;rcases hs.kind with⟨e',hk⟩|hk<;>simp [Builtin.append_,lc Y,lc hk,sizeOf,typeInfo,hi,hs.len,hroom,hs.cells,Addr.add_lit,hst]
structure ZP(l:Option Nat)(w w' :World):Prop where
 os:w'.os=w.os
 tape:w'.tape=w.tape
 output:w'.output=w.output
 drawn:w.drawn<=w'.drawn
 size:w.heap.size<=w'.heap.size
 heap: ∀k,k<w.heap.size->l≠some k->w'.heap[k]? =w.heap[k]?
variable{t' :TypeId}
def Hb{P:Program}{t ty:TypeId}{sz:Nat}{agg:Bool}{n m:Nat}{x:Value}(ti:TI P T sz bytes agg z)(hz:Nat.beq z.length sz=true)(h0:Nat.blt 0 sz=true)(h128:Nat.ble bytes 2048=true)(Y:P.underlying t=some (.slice T))(h:B2 w T sz l cap n cells)(hs:Src P sz t' x m news w)(hlen:n+m<=68719476736):
  ∃l' cap' w',(Builtin.append_ #[t,t'] ty #[ak l cap n,x]).run P w= .ok (ak l' cap' (n+m)) w' /\B2 w' T sz l' cap' (n+m) (cells++news)/\ZP l w w' /\(∀b,l' =some b->l=some b\/w.heap.size<=b)/\(∀b,l=some b->l' ≠some b->w'.heap[b]? =w.heap[b]?):=by
 obtain⟨i,zv,hi,D,V,Z,h4⟩:=ti.get;have h128' :=rx h128;have h0' :0<sz:=by simpa [xS] using h0
 have hz2:z.length=sz:=rm hz;subst D;have hnl:=hs.newsLen;have hbytes:(n+m)*i.bytes<=140737488355328:=pG (Nat.mul_le_mul hlen (by omega:i.bytes<=2048)) (by omega);by_cases hm:m=0
 ·subst hm;have hn0:news=[]:=uS (by simpa using hnl);subst hn0;refine⟨l,cap,w,?_,by simpa using h,⟨rfl,rfl,rfl,eX _,eX _,fun _ _ _=>rfl⟩,fun b K=> .inl K,fun b _ _=>rfl⟩
  cases l with
  |none=>
   obtain⟨rfl,_⟩:=h;exact run_append_nothing w t t' ty T i Y hi none 0 0 (eX _) _ hs
  |some b=>
   obtain⟨cur,_,hle,_⟩:=h;exact run_append_nothing w t t' ty T i Y hi (some ⟨b,0,none⟩) n cap hle _ hs
 have aaV: ∀old,old<n+m->Builtin.nextslicecap (n+m) old*i.bytes<=281474976710656:=fun old ho=>growslice_fits ho hbytes;have fresh: ∀(base:Option Addr) (olds:List Value),ak l cap n= .slice base n cap->olds=cells->cap<n+m->(Builtin.firstCells i.size n (.slice base n cap)).run P w.drew= .ok olds.toArray w.drew->cells.length=n*i.size->
   ∃l' cap' w',(Builtin.append_ #[t,t'] ty #[ak l cap n,x]).run P w= .ok (ak l' cap' (n+m)) w' /\B2 w' T i.size l' cap' (n+m) (cells++news)/\ZP l w w' /\(∀b,l' =some b->l=some b\/w.heap.size<=b)/\(∀b,l=some b->l' ≠some b->w'.heap[b]? =w.heap[b]?):=by
  intro base olds hv he H Q hcl;subst he;have hr:=run_append_grow_src (P:=P) w t t' ty T i zv Y hi Z base n cap olds Q x m news hs H (by omega) (aaV cap H);have hge:=grownCap_ge w (n+m) cap T;rw [<-hv]at hr;refine⟨some w.heap.size,grownCap w (n+m) cap T,_,hr,⟨_,xU w.drew _,hge,grownCap_le_maxLen _ _ _ _ (by simp only [maxLen];omega),?_,?_⟩,⟨rfl,rfl,rfl,Nat.le_succ _,by simp,fun k hk _=>?_⟩,fun b K=> .inr (BD (qr K)),fun b K _=>?_⟩
  ·have:(Builtin.zeroCells zv.cells (grownCap w (n+m) cap T-(n+m))).size=(grownCap w (n+m) cap T-(n+m))*i.size:=by
    rw [size_zeroCells,h4];simp [hz2]
   simp only [Array.size_append,IS,jY,hcl,hnl,this];rw [<-uT,<-uT];congr 1;omega
  ·have hl2:(olds++news).length=(n+m)*i.size:=by rw [jY,hcl,hnl,uT]
   rw [Array.toList_append,Bu (by simp only [List.toList_toArray];omega)];simp only [List.toList_toArray];exact s8 (by omega)
  ·exact qn (w:=w.drew) hk
  ·cases l with
   |none=>cases K
   |some b0=>
    have hb' :b0=b:=qr K;subst hb';exact qn (w:=w.drew) (B2.lt h)
 cases l with
 |none=>
  obtain⟨rfl,rfl⟩:=h;have:=run_append_grow_src (P:=P) w t t' ty T i zv Y hi Z none 0 0 [] (run_firstCells_none w.drew i.size 0 0 0) x m news hs (by omega) (by omega) (aaV 0 (by omega));have hge:=grownCap_ge w (0+m) 0 T;refine⟨some w.heap.size,grownCap w (0+m) 0 T,_,this,⟨_,xU w.drew _,hge,grownCap_le_maxLen _ _ _ _ (by simp only [maxLen];omega),?_,?_⟩,⟨rfl,rfl,rfl,Nat.le_succ _,by simp,fun k hk _=>?_⟩,fun b K=> .inr (BD (qr K)),fun b K=>(by cases K)⟩
  ·have:(Builtin.zeroCells zv.cells (grownCap w (0+m) 0 T-(0+m))).size=(grownCap w (0+m) 0 T-(0+m))*i.size:=by
    rw [size_zeroCells,h4];simp [hz2]
   simp only [Array.size_append,IS,lz,hnl,this];rw [<-uT];congr 1;omega
  ·rw [Array.toList_append,Bu (by simp [hnl])];simp only [lz,oZ];exact s8 (by omega)
  ·exact qn (w:=w.drew) hk
 |some b=>
  obtain⟨cur,K,hle,hmax,hcs,hct⟩:=h;have hcl:cells.length=n*i.size:=by
   rw [<-hct,Br,GH,hcs];exact Bq (FW _ hle)
  by_cases hroom:n+m<=cap
  ·have hfit:n*i.size+news.length<=cur.size:=by rw [hnl,hcs,<-uT];exact FW _ hroom
   have hr:=By (t:=t) (tx:=t') (ty:=ty) Y hi K hs hroom hfit;refine⟨some b,cap,_,hr,⟨_,setRow_heap w b cur _ T _ K,hroom,hmax,?_,?_⟩,⟨rfl,rfl,rfl,eX _,by simp [World.setRow],fun k hk hkb=>setRow_other w b k _ (fun e=>hkb (by rw [e]))⟩,fun b' hb' => .inl hb',fun b' hb' Q_=>absurd hb' Q_⟩
   ·simp only [IS,jY,Br,E2,GH];omega
   ·rw [hct,uT,<-hnl,<-hcl,show cells.length+news.length=(cells++news).length from by simp];exact List.take_left
  ·refine fresh (some ⟨b,0,none⟩) cells rfl rfl (by omega) (run_firstCells_some w.drew i.size n ⟨b,0,none⟩ n cap cells hcl fun j v hv=>?_) hcl;have hj:j<cells.length:=(oC.1 hv).1;have hcell:w.cell? ⟨b,j,none⟩=cur[j]? :=Bk K j;rw [kL];show w.cell? ⟨b,0+j,none⟩=_;rw [oZ,hcell];rw [<-hct,zT (by omega)]at hv;simpa using hv
def xe{P:Program}{r:Rp α}{e' :TypeId}(Y:P.underlying t' =some (.slice e'))(hs:kQ w S)(hv:(tD (eW r) ys).p S v): ∃news,Src P r.sz t' v ys.length news w/\vq r S news ys:=by
 obtain⟨ad,c2,rfl,hcap,hmax,hsl⟩:=oV.1 hv;rcases hsl with rfl|⟨b,off,c,U,fr,e1,e2,e3⟩
 ·refine⟨[],?_,rfl⟩
  cases ad with
  |none=>exact .ofNil w Y c2
  |some a=>exact .ofSlice w Y a 0 c2 [] (by simp) (fun j u hu=>by simp at hu) (fun u hu=>by cases hu)
 ·subst e1;obtain⟨c',h4,h5⟩:=hs.part e2 (pM e3);refine⟨_,.ofSlice w Y ⟨b,off,none⟩ ys.length c2 _ (pM e3) (fun j u hu=>?_) (C9 e3),e3⟩;rw [kL,Bk h4];rw [<-h5]at hu;have hj:j<ys.length*r.sz:=by
   have:=(oC.1 hu).1;simp at this;omega
  rw [zT hj,xT]at hu;simpa using hu
variable{mm:Bool}
def Ag{P:Program}{r:Rp α}{t ty:TypeId}{sz:Nat}{agg:Bool}{base:Nat}{B:Nat->Prop}(ti:TI P T sz bytes agg z)(k_:r.sz=sz)(hz:Nat.beq z.length sz=true)(h0:Nat.blt 0 sz=true)(h128:Nat.ble bytes 2048=true)(Y:P.underlying t=some (.slice T))(hs:kQ w S)(h:(nU mm r T l cap xs).holds base B w S)(K:base<=w.heap.size)(hsrc:Src P r.sz t' v ys.length news w)(hrc:vq r S news ys)(hz' :nH xs ys=some zs):
  ∃l' cap' w' S',(Builtin.append_ #[t,t'] ty #[ak l cap xs.length,v]).run P w= .ok (ak l' cap' zs.length) w' /\ji (fun k=>l=some k) w S w' S' /\kQ w' S' /\(nU mm r T l' cap' zs).holds base B w' S' /\(∀b,l' =some b->l=some b\/w.heap.size<=b):=by
 subst k_;obtain⟨rfl,hlen⟩:=Ws hz';obtain⟨⟨cells,D,V,Z⟩,hbase⟩:=h;obtain⟨l',cap',w',hr,hraw,H,hnew,hold⟩:=Hb (ty:=ty) ti hz h0 h128 Y D hsrc hlen;have hrc' :vq r S (cells++news) (xs++ys):=wu V hrc;have hsat0: ∀k o,S k=some o-> ∃o',w'.heap[k]? =some o' /\Ig o o' :=fun k o hk=>by
  have o_:=hs.lt hk;by_cases hkl:l=some k
  ·obtain⟨o',e1,e2⟩:=hs k o hk;by_cases hkl' :l' =some k
   ·subst hkl';subst hkl;have h3' :=Z k rfl
    cases mm with
    |false=>rw [h3']at hk;cases hk
    |true=>
     rw [h3']at hk;cases hk;obtain⟨cur',g1,g2,g3,g4,g5⟩:=hraw;refine⟨_,g1,?_⟩;refine⟨news++cur'.toList.drop ((xs.length+ys.length)*r.sz),?_⟩;congr 1;apply Array.ext';rw [<-gJ,<-g5,vn]
   ·rw [hold k hkl hkl'];exact hs k o hk
  ·rw [H.heap k o_ hkl];exact hs k o hk
 have C_:kQ w' S:=⟨hsat0,hs.gl,hs.tb⟩;have hSn: ∀b,l' =some b->l≠some b->S b=none:=fun b hb' Q_=>by
  cases hq:S b with
  |none=>rfl
  |some q=>
   have:=hs.lt hq;rcases hnew b hb' with h|h
   ·exact absurd h Q_
   ·omega
 have hbase' : ∀k,l' =some k->base<=k\/B k:=fun k hk=>by
  rcases hnew k hk with h|h
  ·exact hbase k h
  ·exact .inl (by omega)
 have hz2:(xs++ys).length=xs.length+ys.length:=jY
 cases mm with
 |false=>
  refine⟨l',cap',w',S,by rw [hz2];exact hr,⟨H.os,H.tape,H.output,H.drawn,H.size,fun k hk hkb=>H.heap k hk hkb,SH.le_refl _,fun _ _ _=>rfl⟩,C_,⟨⟨cells++news,by rw [hz2];exact hraw,hrc',fun b hb' =>?_⟩,hbase'⟩,hnew⟩;by_cases hlb:l=some b
  ·exact Z b hlb
  ·exact hSn b hb' hlb
 |true=>
  cases l' with
  |none=>
   refine⟨none,cap',w',S,by rw [hz2];exact hr,⟨H.os,H.tape,H.output,H.drawn,H.size,fun k hk hkb=>H.heap k hk hkb,SH.le_refl _,fun _ _ _=>rfl⟩,C_,⟨⟨cells++news,by rw [hz2];exact hraw,hrc',fun b hb' =>(by cases hb')⟩,hbase'⟩,hnew⟩
  |some g=>
   have hq3: ∀q,S g=some q->Ig q (.cells (cells++news).toArray T (0,0)):=fun q hq=>by
    by_cases hlb:l=some g
    ·have h4:S g=some (.cells cells.toArray T (0,0)):=Z g hlb;rw [h4]at hq;cases hq;exact⟨news,by simp⟩
    ·rw [hSn g rfl hlb]at hq;cases hq
   have hle:SH.le S (S.set g (.cells (cells++news).toArray T (0,0))):=yx hq3;obtain⟨cur',g1,g2,g3,g4,g5⟩:=hraw;refine⟨some g,cap',w',S.set g (.cells (cells++news).toArray T (0,0)),by rw [hz2];exact hr,⟨H.os,H.tape,H.output,H.drawn,H.size,fun k hk hkb=>H.heap k hk hkb,hle,fun k hk hkb=>uz _ _ ?_⟩,C_.set g1 ?_ hq3,⟨⟨cells++news,by rw [hz2];exact⟨cur',g1,g2,g3,g4,g5⟩,u3 hle hrc',fun b hb' =>?_⟩,hbase'⟩,hnew⟩
   ·rintro rfl;rcases hnew k rfl with h|h
    ·exact hkb h
    ·omega
   ·refine⟨cur'.toList.drop ((xs.length+ys.length)*r.sz),?_⟩;congr 1;apply Array.ext';rw [<-g5,vn]
   ·have hb2:g=b:=qr hb';subst hb2;exact pE _ _ _
def Qz{e f:OE}(h:e.apart f):f.apart e:=fun b K he=>h b he K
def dR.swap{base:Nat}{B:Nat->Prop}{e f:OE}(h:dR base B w S (e::f::O)):dR base B w S (f::e::O):=by
 obtain⟨D,V,Z,h4,h5⟩:=h;refine⟨Z,?_,D,?_,h5⟩
 ·intro g H;rcases iI.1 H with rfl|H
  ·exact Qz (V _ (pz ..))
  ·exact h4 g H
 ·intro g H;exact V g (pA _ H)
def yA{base:Nat}{B:Nat->Prop}{e:OE}{O' :List OE}(h:dR base B w S (e::O))(k:dR base B w S O->dR base B w S O')(hm: ∀f∈O',f∈O):dR base B w S (e::O'):=
 ⟨h.1,fun f Q=>h.2.1 f (hm f Q),k h.2.2⟩
def uB{base:Nat}{B:Nat->Prop}{a b c:OE}(h:dR base B w S (a::b::c::O)):dR base B w S (c::a::b::O):=
 (yA h dR.swap (fun f Q=>by simp only [iI]at Q ⊢;rcases Q with h|h|h<;>simp [h])).swap
def wR{base:Nat}{B:Nat->Prop}{a b c d:OE}(h:dR base B w S (a::b::c::d::O)):dR base B w S (d::a::b::c::O):=
 (yA h uB (fun f Q=>by simp only [iI]at Q ⊢;rcases Q with h|h|h|h<;>simp [h])).swap
def wQ{base:Nat}{B:Nat->Prop}{a b c d e:OE}(h:dR base B w S (a::b::c::d::e::O)):dR base B w S (e::a::b::c::d::O):=
 (yA h wR (fun f Q=>by simp only [iI]at Q ⊢;rcases Q with h|h|h|h|h<;>simp [h])).swap
section
variable{E:En}
def St.own_map{O' :List OE}(h:St E O G a w S)(k:dR E.base E.B w S O->dR E.base E.B w S O'):St E O' G a w S:=⟨h.ext,h.sat,k h.own,h.facts⟩
def St.H_(h:St E O G a w S):E.base<=w.heap.size:=h.ext.size
def St.drop{e:OE}(h:St E (e::O) G a w S):St E O G a w S:=h.own_map fun h=>h.2.2
def St.fresh(mm:Bool)(r:Rp α)(T:TypeId)(h:St E O G a w S):St E (nU mm r T none 0 []::O) G a w S:=
 h.own_map fun h=>by refine⟨⟨⟨[],⟨rfl,rfl⟩,rfl,fun b K=>(by cases K)⟩,fun k hk=>?_⟩,fun f _ b K=>?_,h⟩<;>(first|cases hk|cases K)
def Cj{e:OE}{b:Nat}{o:Obj}(h:St E (e::O) G a w S)(K:e.fp b)(ho:w.heap[b]? =some o')(hoo:Ig o o')(hn:S b=none):St E O G a w (S.set b o)/\SH.le S (S.set b o)/\ji (fun k=>k=b) w S w (S.set b o)/\kQ w (S.set b o):=by
 have hbase:=h.own.1.2 b K;have hle:SH.le S (S.set b o):=yx fun q hq=>(by rw [hn]at hq;cases hq);have C_:kQ w (S.set b o):=h.sat.set ho hoo fun q hq=>by rw [hn]at hq;cases hq
 have x_:ji (fun k=>k=b) w S w (S.set b o):=⟨rfl,rfl,rfl,eX _,eX _,fun _ _ _=>rfl,hle,fun k _ hk=>uz _ _ hk⟩;refine⟨⟨h.ext.step x_ fun c hc=>by subst hc;exact hbase,C_,h.own.2.2.ext x_ fun f Q c hc hm=>?_,h.facts.mono hle⟩,hle,x_,C_⟩;subst hm;exact h.own.2.1 f Q c K hc
def tO{α:Type}(r:Rp α)(l:Option Nat)(cap:Nat)(xs:List α):Ty where
 p:=fun S v=>v=ak l cap xs.length/\(tD (eW r) xs).p S v
 mono:=fun h ⟨D,V⟩=>⟨D,Ty.mono _ h V⟩
def Ei{N:Fr}{G:oz}{r:Rp α}(h:aG N G x (tO r l cap xs)):aG N G x (tV (ak l cap xs.length)):=fun S a Q=>(h S a Q).1
def nt{N:Fr}{G:oz}{r:Rp α}(h:aG N G x (tO r l cap xs)):aG N G x (tD (eW r) xs):=fun S a Q=>(h S a Q).2
def pY{r:Rp α}{w:World}{S:SH}(h:AP true r T l cap xs w S):(tD (eW r) xs).p S (ak l cap xs.length):=by
 obtain⟨cells,D,V,Z⟩:=h
 cases l with
 |none=>
  have I:xs=[]:=uS D.1;subst I;exact Gk
 |some b=>
  obtain⟨cur,g1,g2,g3,g4,g5⟩:=D;refine oV.2 ⟨_,cap,rfl,g2,g3,.inr ⟨b,0,cells.toArray,T,(0,0),rfl,Z b rfl,?_⟩⟩;have:=pM V;rw [vj,s8 (by simp [this])];exact V
def St.freeze{r:Rp α}(h:St E (fa r T l cap xs::O) G a w S):
  ∃S',St E (dM r T l cap xs::O) G a w S' :=by
 obtain⟨⟨cells,D,V,Z⟩,hbase⟩:=h.own.1
 cases l with
 |none=>exact⟨S,h.ext,h.sat,⟨⟨⟨cells,D,V,fun b K=>(by cases K)⟩,hbase⟩,h.own.2⟩,h.facts⟩
 |some b=>
  obtain⟨cur,g1,g2,g3,g4,g5⟩:=D;have hoo:Ig (.cells cells.toArray T (0,0)) (.cells cur T (0,0)):=by
   refine⟨cur.toList.drop (xs.length*r.sz),?_⟩;congr 1;apply Array.ext';rw [<-g5,vn]
  obtain⟨h8,hle,_,_⟩:=Cj h rfl g1 hoo (Z b rfl);refine⟨_,h8.ext,h8.sat,⟨⟨⟨cells,⟨cur,g1,g2,g3,g4,g5⟩,u3 hle V,fun b' hb' =>?_⟩,hbase⟩,h.own.2.1,h8.own⟩,h8.facts⟩;have hb2:b=b' :=qr hb';subst hb2;exact pE _ _ _
def St.settle{r:Rp α}(h:St E (nU mm r T l cap xs::O) G a w S):
  ∃S',St E O G a w S' /\(tD (eW r) xs).p S' (ak l cap xs.length):=by
 cases mm with
 |true=>exact⟨S,h.drop,pY h.own.1.1⟩
 |false=>
  obtain⟨S',D⟩:=h.freeze;exact⟨S',D.drop,pY D.own.1.1⟩
end
section
variable{E:En}{e:Exit}
def Qf{N:Fr}(h:cH N S a G)(hk:t.p S (a.tmps.getD k undef)):cH N S a ((k,t)::G):=
 ⟨h.size,h.defers,fun j u hj=>by
  unfold look at hj;by_cases K:Nat.beq k j=true
  ·rw [K]at hj;have:=rm K;subst this;rw [<-show t=u from by simpa using hj];exact hk
  ·rw [B6]at K;rw [K]at hj;exact h.h_ j u hj⟩
def St.cons(h:St E O G a w S)(hk:t.p S (a.tmps.getD k undef)):St E O ((k,t)::G) a w S:=⟨h.ext,h.sat,h.own,Qf h.facts hk⟩
def St.tipAt{r:Rp α}{n:Nat}(h:St E (dM r T l cap xs::O) G a w S)(hk:look G k=some (tV (ak l cap n)))(hn:n=xs.length):
  St E (dM r T l cap xs::O) ((k,tO r l cap xs)::G) a w S:=by
 subst hn;have hv:a.tmps.getD k undef=ak l cap xs.length:=h.facts.h_ k _ hk;exact h.cons ⟨hv,by rw [hv];exact pY h.own.1.1⟩
def cr(mm:Bool)(r:Rp α)(T:TypeId)(h:RG E ops hf rest (nU mm r T none 0 []::O) G):RG E ops hf rest O G:=fun a w S st=>h a w S (st.fresh mm r T)
def LE{f:OE}(h:RG E ops hf rest O G):RG E ops hf rest (f::O) G:=fun a w S st=>h a w S st.drop
def aJ{f:OE}(h:AT E hf e O G):AT E hf e (f::O) G:=fun a w S st=>h a w S st.drop
def bM{x y:OE}(h:RG E ops hf rest (y::x::O) G):RG E ops hf rest (x::y::O) G:=fun a w S st=>h a w S (st.own_map dR.swap)
def bj{x y:OE}(h:AT E hf e (y::x::O) G):AT E hf e (x::y::O) G:=fun a w S st=>h a w S (st.own_map dR.swap)
def gi{x y z:OE}(h:RG E ops hf rest (z::x::y::O) G):RG E ops hf rest (x::y::z::O) G:=fun a w S st=>h a w S (st.own_map uB)
def Um{x y z:OE}(h:CG E hf c (z::x::y::O) G):CG E hf c (x::y::z::O) G:=fun a w S st=>h a w S (st.own_map uB)
def ah{x y z:OE}(h:AT E hf e (z::x::y::O) G):AT E hf e (x::y::z::O) G:=fun a w S st=>h a w S (st.own_map uB)
def eh{x y z:OE}(h:RG E ops hf rest (u::x::y::z::O) G):RG E ops hf rest (x::y::z::u::O) G:=fun a w S st=>h a w S (st.own_map wR)
def aM{x y z:OE}(h:AT E hf e (u::x::y::z::O) G):AT E hf e (x::y::z::u::O) G:=fun a w S st=>h a w S (st.own_map wR)
def mC{x y z v:OE}(h:RG E ops hf rest (v::x::y::z::u::O) G):RG E ops hf rest (x::y::z::u::v::O) G:=fun a w S st=>h a w S (st.own_map wQ)
def eb{x y z v:OE}(h:AT E hf e (v::x::y::z::u::O) G):AT E hf e (x::y::z::u::v::O) G:=fun a w S st=>h a w S (st.own_map wQ)
def r0{f:OE}(h:LG E hf c O G):LG E hf c (f::O) G:=fun a w S st=>h a w S st.drop
def gE{x y:OE}(h:LG E hf c (y::x::O) G):LG E hf c (x::y::O) G:=fun a w S st=>h a w S (st.own_map dR.swap)
def qq{x y z:OE}(h:LG E hf c (z::x::y::O) G):LG E hf c (x::y::z::O) G:=fun a w S st=>h a w S (st.own_map uB)
def fK{x y z:OE}(h:LG E hf c (u::x::y::z::O) G):LG E hf c (x::y::z::u::O) G:=fun a w S st=>h a w S (st.own_map wR)
def uC{x y z v:OE}(h:LG E hf c (v::x::y::z::u::O) G):LG E hf c (x::y::z::u::v::O) G:=fun a w S st=>h a w S (st.own_map wQ)
def qo{r:Rp α}(h:RG E ops hf rest (dM r T l cap xs::O) G):RG E ops hf rest (fa r T l cap xs::O) G:=fun a w _ st=>let⟨S',st'⟩:=st.freeze;h a w S' st'
def rQ{r:Rp α}{n:Nat}(k:Nat)(hk:look G k=some (tV (ak l cap n)))(h:RG E ops hf rest (dM r T l cap xs::O) ((k,tO r l cap xs)::G))(hn:n=xs.length:=by rfl):RG E ops hf rest (dM r T l cap xs::O) G:=fun a w S st=>h a w S (st.tipAt hk hn)
def EV{r:Rp α}(h:CG E hf c (dM r T l cap xs::O) G):CG E hf c (fa r T l cap xs::O) G:=fun a w _ st=>let⟨S',st'⟩:=st.freeze;h a w S' st'
def D5{r:Rp α}{n:Nat}(k:Nat)(hk:look G k=some (tV (ak l cap n)))(h:CG E hf c (dM r T l cap xs::O) ((k,tO r l cap xs)::G))(hn:n=xs.length:=by rfl):CG E hf c (dM r T l cap xs::O) G:=fun a w S st=>h a w S (st.tipAt hk hn)
def gQ{r:Rp α}(h:AT E hf e (dM r T l cap xs::O) G):AT E hf e (fa r T l cap xs::O) G:=fun a w _ st=>let⟨S',st'⟩:=st.freeze;h a w S' st'
def d6{r:Rp α}{n:Nat}(k:Nat)(hk:look G k=some (tV (ak l cap n)))(h:AT E hf e (dM r T l cap xs::O) ((k,tO r l cap xs)::G))(hn:n=xs.length:=by rfl):AT E hf e (dM r T l cap xs::O) G:=fun a w S st=>h a w S (st.tipAt hk hn)
def Ug{r:Rp α}(h:LG E hf c (dM r T l cap xs::O) G):LG E hf c (fa r T l cap xs::O) G:=fun a w _ st=>let⟨S',st'⟩:=st.freeze;h a w S' st'
def Ol{r:Rp α}{n:Nat}(k:Nat)(hk:look G k=some (tV (ak l cap n)))(h:LG E hf c (dM r T l cap xs::O) ((k,tO r l cap xs)::G))(hn:n=xs.length:=by rfl):LG E hf c (dM r T l cap xs::O) G:=fun a w S st=>h a w S (st.tipAt hk hn)
def aR{r:Rp α}(hk:look G k=some (tD (eW r) xs))(h:xs.length<=maxLen->CG E hf c O G):CG E hf c O G:=fun a w S st=>by
 obtain⟨_,_,_,D,V,_⟩:=oV.1 (st.facts.h_ k _ hk);exact h (pG D V) a w S st
section
variable{ty:TypeId}
def St.append{r:Rp α}{t ty:TypeId}{sz:Nat}{agg:Bool}(ti:TI E.P T sz bytes agg z)(k_:r.sz=sz)(hz:Nat.beq z.length sz=true)(h0:Nat.blt 0 sz=true)(h128:Nat.ble bytes 2048=true)(Y:E.P.underlying t=some (.slice T))(st:St E (nU mm r T l cap xs::O) G a w S)(hsrc:Src E.P r.sz t' v ys.length news w)(hrc:vq r S news ys)(happ:nH xs ys=some zs):
  ∃l' cap' w' S',(Builtin.append_ #[t,t'] ty #[ak l cap xs.length,v]).run E.P w= .ok (ak l' cap' zs.length) w' /\St E (nU mm r T l' cap' zs::O) G a w' S' :=by
 obtain⟨l',cap',w',S',hr,x_,C_,hh,hnew⟩:=Ag (ty:=ty) ti k_ hz h0 h128 Y st.sat st.own.1 st.H_ hsrc hrc happ;refine⟨l',cap',w',S',hr,st.ext.step x_ fun b K=>st.own.1.2 b K,C_,⟨hh,fun f Q b K hfb=>?_,st.own.2.2.ext x_ fun f Q b K hbl=>st.own.2.1 f Q b hbl K⟩,st.facts.mono x_.keep⟩;rcases hnew b K with h|h
 ·exact st.own.2.1 f Q b h hfb
 ·have:=f.here (dR.mem st.own.2.2 f Q).1 b hfb;omega
def St.put{d:Nat}(h:St E O G a w S)(hd:Nat.blt d E.N.n=true)(hv:t.p S v):St E O ((d,t)::G) (a.put (some d) v) w S:=⟨h.ext,h.sat,h.own,h.facts.put hd hv⟩
def CC{r:Rp α}{t:TypeId}{sz:Nat}{agg:Bool}{n:Nat}{u:Nat->Option Nat->Ty}(ti:TI E.P T sz bytes agg z)(k_:r.sz=sz)(hz:Nat.beq z.length sz=true)(h0:Nat.blt 0 sz=true)(h128:Nat.ble bytes 2048=true)(Y:E.P.underlying t=some (.slice T))(hd:Nat.blt d E.N.n=true)(I:aG E.N G x (tV (ak l cap n)))(hy: ∀a w S,St E (nU mm r T l cap xs::O) G a w S-> ∃news,Src E.P r.sz t' (a.eval y) ys.length news w/\vq r S news ys)(happ:nH xs ys=some zs)(hu: ∀l' cap' w0 S,(nU mm r T l' cap' zs).p w0 S->(u cap' l').p S (ak l' cap' zs.length))(k: ∀l' cap',RG E ops hf rest (nU mm r T l' cap' zs::O) ((d,u cap' l')::G))(hn:n=xs.length):
  RG E ops hf (⟨some d,.call ⟨.builtin .append,#[x,y],#[t,t']⟩,ty,pos,after,none⟩::rest) (nU mm r T l cap xs::O) G:= .of rfl fun a w S st=>by
 subst hn;have D:a.eval x=ak l cap xs.length:=I S a st.facts;obtain⟨news,V,Z⟩:=hy a w S st;obtain⟨l',cap',w',S',hr,st'⟩:=st.append (ty:=ty) ti k_ hz h0 h128 Y V Z happ;have u_:(execOp a.eval ⟨some d,.call ⟨.builtin .append,#[x,y],#[t,t']⟩,ty,pos,after,none⟩).run E.P w= .ok (.value (ak l' cap' zs.length)) w' :=by
  simp [execOp,resolve,invoke,builtin,D,hr]
 refine⟨fun c h=>(by cases h),?_⟩;rw [u_];exact k l' cap' _ _ S' (st'.put hd (hu l' cap' w' S' st'.own.1.1))
def ea{r:Rp α}{t:TypeId}{sz:Nat}{agg:Bool}{n:Nat}(ti:TI E.P T sz bytes agg z)(k_:r.sz=sz)(hz:Nat.beq z.length sz=true)(h0:Nat.blt 0 sz=true)(h128:Nat.ble bytes 2048=true)(Y:E.P.underlying t=some (.slice T))(ht' :t' =t)(hd:Nat.blt d E.N.n=true)(I:aG E.N G x (tV (ak l cap n)))(hy:aG E.N G y (tD (eW r) ys))(happ:nH xs ys=some zs)(k: ∀l' cap',RG E ops hf rest (fa r T l' cap' zs::O) ((d,tV (ak l' cap' zs.length))::G))(hn:n=xs.length:=by rfl):
  RG E ops hf (⟨some d,.call ⟨.builtin .append,#[x,y],#[t,t']⟩,ty,pos,after,none⟩::rest) (fa r T l cap xs::O) G:=by
 subst ht';exact CC (u:=fun cap' l' =>tV (ak l' cap' zs.length)) ti k_ hz h0 h128 Y hd I (fun a w S st=>xe Y st.sat (hy S a st.facts)) happ (fun _ _ _ _ _=>rfl) k hn
def uA{r:Rp α}{t:TypeId}{sz:Nat}{agg:Bool}(ti:TI E.P T sz bytes agg z)(k_:r.sz=sz)(hz:Nat.beq z.length sz=true)(h0:Nat.blt 0 sz=true)(h128:Nat.ble bytes 2048=true)(Y:E.P.underlying t=some (.slice T))(ht' :t' =t)(hd:Nat.blt d E.N.n=true)(I:aG E.N G x (tO r l cap xs))(hy:aG E.N G y (tD (eW r) ys))(happ:nH xs ys=some zs)(k: ∀l' cap',RG E ops hf rest (dM r T l' cap' zs::O) ((d,tO r l' cap' zs)::G)):
  RG E ops hf (⟨some d,.call ⟨.builtin .append,#[x,y],#[t,t']⟩,ty,pos,after,none⟩::rest) (dM r T l cap xs::O) G:=by
 subst ht';exact CC (u:=fun cap' l' =>tO r l' cap' zs) ti k_ hz h0 h128 Y hd (Ei I) (fun a w S st=>xe Y st.sat (hy S a st.facts)) happ (fun _ _ _ _ h=>⟨rfl,pY h⟩) k rfl
end
end
def Dv(off:Nat): ∀(cs:List Value) (k:Nat) (pre mid post:List Value),mid.length=cs.length->pre.length=off+k->
  (cs.zipIdx k).foldl (fun(a:Array Value) x=>a.setIfInBounds (off+x.2) x.1) (pre++mid++post).toArray=(pre++cs++post).toArray
 |[],k,pre,mid,post,hm,_=>by
  have:mid=[]:=uS hm;subst this;simp
 |c::cs,k,pre,mid,post,hm,hp=>by
  cases mid with
  |nil=>simp at hm
  |cons m mid=>
   simp only [List.zipIdx_cons,List.foldl_cons];have D:(pre++(m::mid)++post).toArray.setIfInBounds (off+k) c=((pre++[c])++mid++post).toArray:=by
    rw [<-hp];simp
   rw [D,Dv off cs (k+1) (pre++[c]) mid post (by simpa using hm) (by simp;omega)];simp
def C0(v:Value)(off:Nat)(pre mid post:List Value)(hm:mid.length=v.cells.size)(hp:pre.length=off):
  v.cells.zipIdx.foldl (fun cs (x:Value×Nat)=>cs.setIfInBounds (off+x.2) x.1) (pre++mid++post).toArray=(pre++v.cells.toList++post).toArray:=by
 have:=Dv off v.cells.toList 0 pre mid post (by simpa using hm) (by simpa using hp);rw [<-this,<-Array.foldl_toList];simp [Array.toList_zipIdx]
def xW{r:Rp α}{x:α}(h:r.rc S cs x):(r.val cs).cells=cs.toArray:=by
 unfold Rp.val
 cases ha:r.agg with
 |true=>simp [Value.cells]
 |false=>
  have hl:=r.len h;rw [r.sc ha]at hl
  match cs,hl with
  |[c],_=>
   have:=r.one h c (by simp);cases c<;>simp_all [Value.cells,Value.oneCell']
def FF:Nat->List Value->List (Nat×Value)
 |_,[]=>[]
 |k,v::vs=>(k,v)::FF (k+1) vs
def HN{α:Type}{r:Rp α}{S:SH}: ∀(ys:List α) (vs:List Value) (k:Nat) (pre zs:List Value),yw S (ys.map (tD r)) vs->pre.length=k*r.sz->zs.length=ys.length*r.sz->
  ∃cs,vq r S cs ys/\Instr.fill (fun i=>some (i*r.sz,r.sz)) (pre++zs).toArray (FF k vs)=some (pre++cs).toArray
 |[],[],k,pre,zs,_,_,hz=>by
  have:zs=[]:=uS (by simpa using hz);subst this;exact⟨[],rfl,by simp [FF,Instr.fill]⟩
 |y::ys,v::vs,k,pre,zs,⟨⟨c,e,hc⟩,V⟩,hp,hz=>by
  have hl:=r.len hc;have hz' :r.sz<=zs.length:=by rw [hz,jr,uT];omega
  have e1:zs=zs.take r.sz++zs.drop r.sz:=(vn _ _).symm;have hcells:v.cells=c.toArray:=by rw [e];exact xW hc
  obtain⟨cs,Z,h4⟩:=HN ys vs (k+1) (pre++c) (zs.drop r.sz) V (by rw [jY,hp,hl,uT];omega) (by rw [E2,hz,jr,uT];omega);refine⟨c++cs,⟨c,cs,rfl,hc,Z⟩,?_⟩;have hs:v.cells.size=r.sz:=by rw [hcells];simpa using hl
  have hcond: ¬((v.cells.size≠r.sz)\/(k*r.sz+v.cells.size>(pre++zs).toArray.size)):=by
   simp [hs];omega
  have h5:=C0 v (k*r.sz) pre (zs.take r.sz) (zs.drop r.sz) (by simp [hs];omega) hp;rw [gJ,<-e1]at h5;simp only [FF,Instr.fill];rw [aZ (by simpa using hcond)];rw [h5,hcells];simpa using h4
def BY:Nat->List Operand->List (Nat×Operand)
 |_,[]=>[]
 |k,v::vs=>(k,v)::BY (k+1) vs
def EK(ρ:Operand->Value): ∀(k:Nat) (xs:List Operand),(BY k xs).map (fun x=>(x.1,ρ x.2))=FF k (xs.map ρ)
 |_,[]=>rfl
 |k,x::xs=>by simp [BY,FF,EK ρ (k+1) xs]
section
variable{E:En}{ty:TypeId}
def Af{P:Program}{r:Rp α}{xs:List Operand}{ρ:Operand->Value}{t:TypeId}{n sz:Nat}{agg:Bool}(Y:P.underlying t=some (.slice T))(ti:TI P T sz bytes agg z)(k_:r.sz=sz)(hn:n=ys.length)(K:Nat.ble (n*sz) 16777216=true)(I:yw S (ys.map (tD r)) (xs.map ρ))(w:World):
  ∃cs,vq r S cs ys/\(Instr.buildSlice t n ((BY 0 xs).toArray.map fun x=>(x.1,ρ x.2))).run P w= .ok (.slice (some ⟨w.heap.size,0,none⟩) n n) (w.alloc (.cells cs.toArray T (0,0))):=by
 subst k_;have hb' :=rx K;obtain⟨zv,hzr,_⟩:=ti.zero w;obtain⟨cs,hc,hfill⟩:=HN ys (xs.map ρ) 0 [] ((Array.range (n*r.sz)).map (fun i=>(if n*r.sz=0 then #[]else zv.cells)[i%(if n*r.sz=0 then #[]else zv.cells).size]!)).toList I (by simp) (by simp [hn]);refine⟨cs,hc,?_⟩;have hparts:((BY 0 xs).toArray.map fun x=>(x.1,ρ x.2)).toList=FF 0 (xs.map ρ):=by simp [EK]
 simp only [lz,Array.toArray_toList]at hfill;have hle: ¬(n*r.sz>2^24):=by omega
 by_cases hn0:n*r.sz=0
 ·simp only [hn0,mF]at hfill;simp only [Instr.buildSlice,uc,lc Y,vm,ti.sizeOf,Sem.run_ite,hn0,mF,GE,hparts,hfill];simp [newRow]
 ·simp only [hn0,lS]at hfill;simp only [Instr.buildSlice,uc,lc Y,vm,ti.sizeOf,Sem.run_ite,hle,lS,hn0,GE,hzr,hparts,hfill];simp [newRow]
def aI{r:Rp α}{xs:List Operand}{parts:List (Nat×Operand)}{t:TypeId}{n sz:Nat}{agg:Bool}(Y:E.P.underlying t=some (.slice T))(ti:TI E.P T sz bytes agg z)(k_:r.sz=sz)(h0:Nat.blt 0 sz=true)(hp:parts=BY 0 xs)(hn:n=ys.length)(K:Nat.ble (n*sz) 16777216=true)(I:k5 E.N G xs (ys.map (tD r))):ck E O G ⟨dst,.buildSlice t n parts.toArray,ty,pos,after,g⟩ (tD (eW r) ys):=
 .of_run fun a w S hs _ Q=>by
  obtain⟨cs,hc,hr⟩:=Af Y ti k_ hn K (I.tys Q) w;subst k_;have hb' :=rx K;have h0' :0<r.sz:=by simpa [xS] using h0
  have hnle:n<=n*r.sz:=Nat.le_mul_of_pos_right n h0';obtain⟨he,hs'⟩:=xA (w:=w) (.cells cs.toArray T (0,0)) hs;have hcl:=pM hc;refine⟨.slice (some ⟨w.heap.size,0,none⟩) n n,_,_,?_,he,hs',oV.2 ⟨_,n,by rw [hn],by omega,by simp only [maxLen];omega,.inr ⟨w.heap.size,0,cs.toArray,T,(0,0),rfl,by simp [SH.set],?_⟩⟩⟩
  ·subst hp;simp only [execOp,uc,hr,vm,GE]
  ·have:vq r (S.set w.heap.size (.cells cs.toArray T (0,0))) cs ys:=u3 he.keep hc;simpa [<-hcl] using this
def PE{r:Rp α}{v:α}(I:aG E.N G x (tD r v)):ck E O G ⟨dst,.box T x,ty,pos,after,g⟩ (aY r v):=
 .of_run fun a w S hs _ Q=>by
  obtain⟨cs,hv,hc⟩:=I S a Q;obtain⟨he,hs'⟩:=xA (w:=w) (.cells cs.toArray T (0,0)) hs;refine⟨.pointer (some ⟨w.heap.size,0,none⟩),_,_,?_,he,hs',w.heap.size,0,cs.toArray,T,(0,0),rfl,by simp [SH.set],?_⟩
  ·simp [execOp,Instr.box,newVar,newRow,hv,xW hc]
  ·have:=r.mono he.keep hc;have hl:=r.len hc;simpa [<-hl] using this
end
def pI(c:Bool)(t:Ty):Ty where
 p:=fun S v=>if c=true then t.p S v else v=undef
 mono:=fun h k=>by
  split
  ·rename_i hc;rw [bq hc]at k;exact t.mono h k
  ·rename_i hc;rw [aZ hc]at k;exact k
variable{pol:Bool}
section
variable{E:En}
def br{N:Fr}{c:Bool}(h:look G k=some (pI c t))(hc:c=true):aG N G (.tmp k) t:=fun _ _ hF=>by
 have V:if c=true then t.p _ (Act.eval _ (.tmp k))else _=undef:=hF.h_ k _ h;rw [bq hc]at V;exact V
def xr(c b:Bool):Ty:=pI c (tD rB b)
def sQ(h:look G k=some (tD rB b)):aG E.N G (.tmp k) (xr true b):=fun _ _ hF=>by
 have V:(tD rB b).p _ (Act.eval _ (.tmp k)):=hF.h_ k _ h;simp only [xr,pI,mF];exact V
def EE{c:Bool}(h:look G k=some (pI c (tD rB b))):aG E.N G (.tmp k) (xr c b):=fun _ _ hF=>hF.h_ k _ h
def yP{c:Bool}(H:o.guard=some (j,pol))(hj:(ops[j]?).bind (·.dst)=some gs)(hn:gs<a.tmps.size)(hv:(xr c b).p S (a.tmps.getD gs undef)):
  Region.wanted o (yielded ops a.tmps)=(c&&(b==pol)):=by
 have hget:a.tmps[gs]? =some (a.tmps.getD gs undef):=by
  rw [Ka,Array.getElem?_eq_getElem hn];rfl
 unfold Region.wanted;rw [H];simp only [yielded,hj,bh,hget]
 cases c with
 |true=>
  have:a.tmps.getD gs undef= .bool b:=jN.1 (by simpa [xr,pI] using hv);rw [this];cases b<;>cases pol<;>rfl
 |false=>
  have:a.tmps.getD gs undef=undef:=by simpa [xr,pI] using hv
  rw [this];cases pol<;>rfl
def LC{c:Bool}{op:Op}{ty:TypeId}(hj:(ops[j]?).bind (·.dst)=some gs)(hgs:Nat.blt gs E.N.n=true)(H:aG E.N G (.tmp gs) (xr c b))(hd:Nat.blt d E.N.n=true)(h:(c&&(b==pol))=true->ck E O G ⟨some d,op,ty,pos,after,some (j,pol)⟩ t)(k:RG E ops hf rest O ((d,pI (c&&(b==pol)) t)::G)):
  RG E ops hf (⟨some d,op,ty,pos,after,some (j,pol)⟩::rest) O G:=fun a w S st=>by
 have hgs' :gs<a.tmps.size:=by rw [st.facts.size];simpa [xS] using hgs
 have hw:=yP (o:=⟨some d,op,ty,pos,after,some (j,pol)⟩) rfl hj hgs' (H S a st.facts);refine wpListIn_step fun hb hK=>?_;rw [hw];by_cases hc:(c&&(b==pol))=true
 ·rw [bq hc];refine n8 (fun a' w' ⟨v,S',ha,he,hs,hv⟩=>?_) (h hc a w S st.sat st.own st.facts);subst ha;refine hK _ _ (k _ _ _ (st.step he hs hd ?_));simpa only [pI,hc,mF] using hv
 ·rw [aZ hc];refine⟨fun _ _=>trivial,hK _ _ (k _ _ S (st.step (ji.refl _ _ _) st.sat hd ?_))⟩;show if _ then _ else _;rw [aZ hc]
end
structure Nd where
 slot:Nat
 ty:Ty
 src:Option Nat
def bF(E:En)(O:List OE)(ops:Array Oper)(need:oz)(o:Oper)(t:Ty):Prop:=
 ∀a w S,kQ w S->dR E.base E.B w S O->cH E.N S a need->
  if Region.wanted o (yielded ops a.tmps)then MN E.P o a w (fun a' w' => ∃v S',a' =a.put o.dst v/\ji sq w S w' S' /\kQ w' S' /\t.p S' v)else t.p S undef
def lO:List Nd->oz
 |[]=>[]
 |n::l=>(n.slot,n.ty)::lO l
def Fa(o:Oper)(j:Nat):Bool:=o.after.toList.any fun e=>Nat.beq e.on j&&Region.binds .any e
def ro(l:List Oper)(o:Oper)(i:Nat)(n:Nd):Bool:=
 match n.src with
 |some j=>(match l[j]? with|some p=>(match p.dst with|some d=>Nat.beq d n.slot|none=>false)|none=>false)&&Fa o j
 |none=>l.all fun p=>(match p.dst with|some d=> !(Nat.beq d n.slot)|none=>true)||Fa p i
def AS(G:oz)(ts:List Ty)(n:Nd):Prop:=
 match n.src with
 |some j=>ts[j]? =some n.ty
 |none=>look G n.slot=some n.ty
def vh(G:oz)(ts:List Ty):List Nd->Prop
 |[]=>True
 |n::l=>AS G ts n/\vh G ts l
def vh.mem: ∀{l:List Nd},vh G ts l-> ∀n∈l,AS G ts n
 |_::_,⟨h,_⟩,_,.head _=>h
 |_::_,⟨_,h⟩,_,.tail _ hm=>vh.mem h _ hm
def YM(o:Oper):Nat:=o.dst.getD 0
def fU(i:Nat)(o:Oper):Bool:=o.after.toList.all fun e=> !(Region.binds .any e)||Nat.blt e.on i
def DR(E:En)(O:List OE)(G:oz)(l:List Oper)(ts:List Ty):Nat->List Oper->Prop
 |_,[]=>True
 |i,o::rest=>(∃(needs:List Nd) (t:Ty),ts[i]? =some t/\vh G ts needs/\(needs.all (ro l o i))=true/\fU i o=true/\bF E O l.toArray (lO needs) o t)/\DR E O G l ts (i+1) rest
def yU(N:Nat):List Nat->List Oper->Bool
 |_,[]=>true
 |seen,o::rest=>(match o.dst with|some d=>Nat.blt d N&& !(seen.any (Nat.beq d))&&yU N (d::seen) rest|none=>false)
def aga(E:En)(O:List OE)(G:oz)(l:List Oper)(ts:List Ty)(i:Nat)(o:Oper):Prop:=
 ∃(needs:List Nd) (t:Ty),ts[i]? =some t/\vh G ts needs/\(needs.all (ro l o i))=true/\fU i o=true/\bF E O l.toArray (lO needs) o t
def DR.get{E:En}{l:List Oper}(r:List Oper): ∀(k:Nat),DR E O G l ts k r-> ∀(j:Nat) (o:Oper),r[j]? =some o->aga E O G l ts (k+j) o:=by
 induction r with
 |nil=>intro k _ j o h;simp at h
 |cons p r ih=>
  intro k h j o ho
  cases j with
  |zero=>simp at ho;subst ho;exact h.1
  |succ j=>
   have:=ih (k+1) h.2 j o (by simpa using ho)
   rwa [show k+1+j=k+(j+1)from by omega]at this
def Aa{N:Nat}(l:List Oper): ∀(seen:List Nat),yU N seen l=true->
  (∀o:Oper,o∈l-> ∃d,o.dst=some d/\d<N/\d∉seen)/\ ∀(i j:Nat) (o p:Oper),l[i]? =some o->l[j]? =some p->o.dst=p.dst->i=j:=by
 induction l with
 |nil=>exact fun _ _=>⟨fun _ h=>(by cases h),fun _ _ _ _ h=>(by simp at h)⟩
 |cons o l ih=>
  intro seen h;unfold yU at h
  cases hd:o.dst with
  |none=>rw [hd]at h;cases h
  |some d=>
   rw [hd]at h;simp only [jJ,FS]at h;obtain⟨⟨D,V⟩,Z⟩:=h;have h2' :d∉seen:=fun hm=>by
    rw [IR]at V;exact V d hm (by simp)
   obtain⟨ih1,ih2⟩:=ih _ Z;refine⟨fun q hq=>?_,fun i j q p hi hj hdp=>?_⟩
   ·rcases iI.1 hq with rfl|hq
    ·exact⟨d,hd,by simpa [xS] using D,h2'⟩
    ·obtain⟨d',e1,e2,e3⟩:=ih1 q hq;exact⟨d',e1,e2,fun hm=>e3 (pA _ hm)⟩
   ·cases i with
    |zero=>
     cases j with
     |zero=>rfl
     |succ j=>
      simp at hi hj;subst hi;obtain⟨d',e1,_,e3⟩:=ih1 p (ud hj);rw [hd,e1]at hdp;have e4:d=d' :=by simpa using hdp
      exact absurd (by rw [e4];exact pz ..) e3
    |succ i=>
     cases j with
     |zero=>
      simp at hi hj;subst hj;obtain⟨d',e1,_,e3⟩:=ih1 q (ud hi);rw [hd,e1]at hdp;have e4:d' =d:=by simpa using hdp
      exact absurd (by rw [e4];exact pz ..) e3
     |succ j=>rw [ih2 i j q p (by simpa using hi) (by simpa using hj) hdp]
structure DJ(E:En)(O:List OE)(G:oz)(l:List Oper)(ts:List Ty)(done:Array Bool)(a:Act)(w:World)(S:SH):Prop where
 ext:ji E.B E.w0 E.S0 w S
 sat:kQ w S
 own:dR E.base E.B w S O
 size:a.tmps.size=E.N.n
 defers:a.defers=E.N.ds
 dsz:done.size=l.length
 down: ∀j o,l[j]? =some o->done.getD j false=true-> ∀e∈o.after,Region.binds .any e=true->done.getD e.on false=true
 old: ∀k t,look G k=some t->(∀j o,l[j]? =some o->done.getD j false=true->o.dst≠some k)->t.p S (a.tmps.getD k undef)
 new: ∀j o d t,l[j]? =some o->done.getD j false=true->o.dst=some d->ts[j]? =some t->t.p S (a.tmps.getD d undef)
def DJ.need{E:En}{l:List Oper}(h:DJ E O G l ts done a w S)(hi:l[i]? =some o)(hun:done.getD i true=false)(t_: ∀e∈o.after,Region.binds .any e=true->done.getD e.on false=true){needs:List Nd}(D:vh G ts needs)(V:(needs.all (ro l o i))=true):cH E.N S a (lO needs):=by
 have o_:i<done.size:=by rw [h.dsz];exact(oC.1 hi).1
 have hun' :done.getD i false=false:=by
  simp [o_]at hun ⊢;exact hun
 refine⟨h.size,h.defers,?_⟩;have key: ∀n∈needs,n.ty.p S (a.tmps.getD n.slot undef):=by
  intro n hn;have hs:=o0.1 V n hn;have ho:=D.mem n hn;unfold ro at hs;unfold AS at ho
  cases hsrc:n.src with
  |some j=>
   rw [hsrc]at hs ho;simp only [jJ]at hs;obtain⟨hs1,hs2⟩:=hs
   cases hj:l[j]? with
   |none=>rw [hj]at hs1;cases hs1
   |some p=>
    rw [hj]at hs1
    cases hd:p.dst with
    |none=>simp only [hd]at hs1;cases hs1
    |some d=>
     simp only [hd]at hs1;have hd' :=rm hs1;subst hd';have e_:done.getD j false=true:=by
      unfold Fa at hs2;obtain⟨e,he0,K⟩:=zO.1 hs2;have he:e∈o.after:=by simpa using he0
      simp only [jJ]at K;have:=t_ e he K.2
      rwa [rm K.1]at this
     exact h.new j p n.slot n.ty hj e_ hd ho
  |none=>
   rw [hsrc]at hs ho;refine h.old _ _ ho fun j p hj e_ hd=>?_;have:=o0.1 hs p (ud hj);simp only [hd,Nat.beq_refl,s6,yG]at this;unfold Fa at this;obtain⟨e,he0,K⟩:=zO.1 this;have he:e∈p.after:=by simpa using he0
   simp only [jJ]at K;have Z:=h.down j p hj e_ e he K.2;rw [rm K.1]at Z;rw [Z]at hun';cases hun'
 clear D V;intro k t hk
 induction needs with
 |nil=>simp [lO,look]at hk
 |cons n needs ih=>
  unfold lO look at hk;by_cases K:Nat.beq n.slot k=true
  ·rw [K]at hk;have:=rm K;subst this;have e:n.ty=t:=by simpa using hk
   rw [<-e];exact key n (pz ..)
  ·rw [B6]at K;rw [K]at hk;exact ih (fun m hm=>key m (pA _ hm)) hk
def Pz:List Oper->List Ty->oz->oz
 |o::l,t::ts,G=>(YM o,t)::Pz l ts G
 |_,_,G=>G
def Jw(l:List Oper): ∀(ts:List Ty) (k:Nat) (t:Ty),(∀o:Oper,o∈l->o.dst≠none)->ts.length=l.length->look (Pz l ts G) k=some t->
  (∃(j:Nat) (o:Oper),l[j]? =some o/\o.dst=some k/\ts[j]? =some t)\/(look G k=some t/\ ∀o:Oper,o∈l->o.dst≠some k):=by
 induction l with
 |nil=>
  intro ts k t _ hl h;have:ts=[]:=uS (by simpa using hl);subst this;exact .inr ⟨h,fun _ h=>(by cases h)⟩
 |cons o l ih=>
  intro ts k t Q_ hl h
  cases ts with
  |nil=>simp at hl
  |cons u ts=>
   unfold Pz look at h;by_cases K:Nat.beq (YM o) k=true
   ·rw [K]at h;have hk:=rm K;refine .inl ⟨0,o,rfl,?_,by simpa using h⟩
    cases hd:o.dst with
    |none=>exact absurd hd (Q_ o (pz ..))
    |some d=>simp only [YM,hd,Option.getD_some]at hk;rw [hk]
   ·rw [B6]at K;rw [K]at h;rcases ih ts k t (fun p hp=>Q_ p (pA _ hp)) (by simpa using hl) h with⟨j,p,D,V,Z⟩|⟨D,V⟩
    ·exact .inl ⟨j+1,p,by simpa using D,V,by simpa using Z⟩
    ·refine .inr ⟨D,fun p hp hd=>?_⟩;rcases iI.1 hp with rfl|hp
     ·simp [YM,hd]at K
     ·exact V p hp hd
def xj(hd:d<a.tmps.size):(a.put (some d) v).tmps.getD k undef=if d=k then v else a.tmps.getD k undef:=by
 by_cases h:d=k
 ·subst h;simp [Act.put,Ka,hd]
 ·simp [Act.put,Ka,h]
def DJ.step{E:En}{l:List Oper}(h:DJ E O G l ts done a w S)(hsl:yU E.N.n [] l=true)(hi:l[i]? =some o)(t_: ∀e∈o.after,Region.binds .any e=true->done.getD e.on false=true)(Y:ts[i]? =some t)(hun:done.getD i true=false)(x_:ji sq w S w' S')(C_:kQ w' S')(hv:t.p S' v):DJ E O G l ts (done.setIfInBounds i true) (a.put o.dst v) w' S' :=by
 obtain⟨hs1,hs2⟩:=Aa l [] hsl;obtain⟨d,hd,hdN,_⟩:=hs1 o (ud hi);have hda:d<a.tmps.size:=by rw [h.size];exact hdN
 have o_:i<done.size:=by rw [h.dsz];exact(oC.1 hi).1
 have I_: ∀j,(done.setIfInBounds i true).getD j false=true->j=i\/done.getD j false=true:=fun j hj=>by
  by_cases hij:i=j
  ·exact .inl hij.symm
  ·rw [zC false hij]at hj;exact .inr hj
 have hseti:(done.setIfInBounds i true).getD i false=true:=by simp [o_]
 have hun' :done.getD i false=false:=by simp [o_]at hun ⊢;exact hun
 refine⟨h.ext.step0 x_,C_,h.own.ext0 x_,?_,?_,by simp [h.dsz],fun j p hj e_ e he K=>?_,fun k u hk G_=>?_,fun j p d' u hj e_ hd' hu=>?_⟩
 ·rw [hd];simp [Act.put,h.size]
 ·rw [hd];exact h.defers
 ·rcases I_ j e_ with rfl|hj'
  ·rw [hi]at hj;have:o=p:=by simpa using hj
   subst this;exact Bp (t_ e he K)
  ·exact Bp (h.down j p hj hj' e he K)
 ·have Q_:d≠k:=fun e=>G_ i o hi hseti (by rw [hd,e]);rw [hd,xj hda,aZ Q_];exact u.mono x_.keep (h.old k u hk fun j p hj e_=>G_ j p hj (Bp e_))
 ·rw [hd,xj hda];rcases I_ j e_ with rfl|hj'
  ·rw [hi]at hj;have:o=p:=by simpa using hj
   subst this;rw [hd]at hd';have:d=d' :=by simpa using hd'
   subst this;rw [bq rfl];rw [Y]at hu;have:t=u:=by simpa using hu
   subst this;exact hv
  ·have Q_:d≠d' :=fun e=>by
    subst e;have:=hs2 i j o p hi hj (by rw [hd,hd']);subst this;rw [hj']at hun';cases hun'
   rw [aZ Q_];exact u.mono x_.keep (h.new j p d' u hj hj' hd' hu)
def N6{l:List Oper}{done:Array Bool}(k_:done.size=l.length)(hedge: ∀i o,l[i]? =some o->fU i o=true)(hr:Region.ready .any l.toArray done=[]): ∀n i,i<n->i<l.length->done.getD i false=true
 |0,i,h,_=>by omega
 |n+1,i,h,hi=>by
  have ih:=N6 k_ hedge hr n;by_cases hd:done.getD i true=true
  ·have:i<done.size:=by omega
   simp [this]at hd ⊢;exact hd
  ·exfalso;have hmem:i∈Region.ready .any l.toArray done:=by
    rw [wi];refine⟨by simpa using hd,l[i],by simp [hi],fun e he K=>?_⟩;have:=hedge i l[i] (by simp [hi]);unfold fU at this;have:=o0.1 this e (by simpa using he);simp only [K,s6,yG,xS]at this;exact ih e.on (by omega) (by omega)
   rw [hr]at hmem;cases hmem
def oE(done:Array Bool):Nat:=done.toList.countP (· ==false)
def uf(h:done.getD i true=false):oE (done.setIfInBounds i true)+1=oE done:=by
 have o_:i<done.size:=by
  rcases mN i done.size with h' |h'
  ·exact h'
  ·simp [Array.getElem?_eq_none h']at h
 have hv:done[i]=false:=by simpa [o_] using h
 unfold oE;rw [Array.toList_setIfInBounds,List.countP_set (by simpa using o_)];have V:(done.toList[i]'(by simpa using o_))=false:=by simpa using hv
 have hpos:0<done.toList.countP (· ==false):=List.countP_pos_iff.2 ⟨done.toList[i]'(by simpa using o_),zW _,by rw [V];rfl⟩;rw [V,bq (show(false==false)=true from rfl),aZ (show¬((true==false)=true) by decide)];omega
def OO{E:En}{l:List Oper}(hsl:yU E.N.n [] l=true)(hd:DR E O G l ts 0 l)(hQ: ∀done a w S,DJ E O G l ts done a w S->(∀i,i<l.length->done.getD i false=true)->hf .normal a w):
  ∀(fuel:Nat) (done:Array Bool) (a:Act) (w:World) (S:SH),oE done=fuel->DJ E O G l ts done a w S->wpAnyIn (fw E.r) 0 E.P .any l.toArray hf fuel done a w:=by
 have hedge: ∀i o,l[i]? =some o->fU i o=true:=fun i o hi=>by
  obtain⟨_,_,_,_,_,h,_⟩:=DR.get l 0 hd i o hi;simpa using h
 have fin: ∀done a w S,DJ E O G l ts done a w S->Region.ready .any l.toArray done=[]->hf .normal a w:=fun done a w S h hr=>
  hQ done a w S h fun i hi=>N6 h.dsz hedge hr (i+1) i (by omega) hi
 intro fuel
 induction fuel with
 |zero=>
  intro done a w S hu h;have hr:Region.ready .any l.toArray done=[]:=by
   cases hr:Region.ready .any l.toArray done with
   |nil=>rfl
   |cons i r=>
    have hm:i∈Region.ready .any l.toArray done:=by rw [hr];exact pz ..
    have:=uf (wi.1 hm).1;omega
  exact⟨hr,fin done a w S h hr⟩
 |succ fuel ih=>
  intro done a w S hu h;refine⟨fin done a w S h,fun i hi=>?_⟩;obtain⟨hun,o,ho,t_⟩:=wi.1 hi;have ho' :l[i]? =some o:=by simpa using ho
  obtain⟨needs,t,D,V,Z,_,h5⟩:=DR.get l 0 hd i o ho';rw [oZ]at D Z;have hF:=h.need ho' hun t_ V Z;have h6:=h5 a w S h.sat h.own hF;have hu' :oE (done.setIfInBounds i true)=fuel:=by have:=uf hun;omega
  unfold wpOpIn;rw [ho];show if _ then _ else _;by_cases hw:Region.wanted o (yielded l.toArray a.tmps)=true
  ·rw [bq hw]at h6 ⊢;refine n8 (fun a' w' ⟨v,S',ha,he,hs,hv⟩=>?_) h6;subst ha;exact ih _ _ _ S' hu' (h.step hsl ho' t_ D hun he hs hv)
  ·rw [aZ hw]at h6 ⊢;exact⟨fun _ _=>trivial,ih _ _ _ S hu' (h.step hsl ho' t_ D hun (ji.refl _ _ _) h.sat h6)⟩
section
variable{E:En}
def eE{id:Nat}{l:List Oper}(hm:E.P.follows .mixedOrders=true)(hsl:yU E.N.n [] l=true)(hlen:ts.length=l.length)(hd:DR E O G l ts 0 l)(k:AT E hf .normal O (Pz l ts G)):
  CG E hf (.region id l.toArray true) O G:=fun a w S st=>by
 refine wpIn_region_any hm ?_;obtain⟨he,hs⟩:=AU (w:=w) st.sat;refine OO hsl hd (fun done a w S h K_=>k a w S ⟨h.ext,h.sat,h.own,h.size,h.defers,fun j t hj=>?_⟩) _ _ _ _ S ?_
  ⟨st.ext.step0 he,hs,st.own.ext0 he,st.facts.size,st.facts.defers,by simp,fun j o hj e_=>?_,fun k t hk _=>st.facts.h_ k t hk,fun j o d t hj e_=>?_⟩
 ·obtain⟨hs1,_⟩:=Aa l [] hsl;rcases Jw l ts j t (fun o ho e=>by obtain⟨d,hd,_⟩:=hs1 o ho;rw [hd]at e;cases e) hlen hj with⟨i,o,D,V,Z⟩|⟨D,V⟩
  ·exact h.new i o j t D (K_ i (oC.1 D).1) V Z
  ·exact h.old j t D fun i o ho _=>V o (ud ho)
 ·unfold oE;rw [QT,QP];simp
 ·simp [B7]at e_;split at e_<;>simp at e_
 ·simp [B7]at e_;split at e_<;>simp at e_
def aa{need:oz}(H:o.guard=none)(h:ck E O need o t):bF E O ops need o t:=fun a w S hs ho Q=>by
 have:Region.wanted o (yielded ops a.tmps)=true:=by unfold Region.wanted;rw [H]
 rw [this,bq rfl];exact h a w S hs ho Q
def AR{l:List Oper}{need:oz}{c:Bool}(H:o.guard=some (j,pol))(hj:((l.toArray)[j]?).bind (·.dst)=some gs)(hgs:Nat.blt gs E.N.n=true)(K:aG E.N need (.tmp gs) (xr c b))(h:(c&&(b==pol))=true->ck E O need o t):bF E O l.toArray need o (pI (c&&(b==pol)) t):=fun a w S hs ho Q=>by
 have hw:=yP (ops:=l.toArray) H hj (by rw [Q.size];simpa [xS] using hgs) (K S a Q);rw [hw];by_cases hc:(c&&(b==pol))=true
 ·rw [bq hc];refine qk (fun a' w' ⟨v,S',ha,he,hs,hv⟩=>⟨v,S',ha,he,hs,?_⟩) (h hc a w S hs ho Q);show if _ then _ else _;rw [bq hc];exact hv
 ·rw [aZ hc];show if _ then _ else _;rw [aZ hc]
end
variable{α0 α1 α2 α3 α4 α5:Type}{Gf:α0->α1->α2->α3->α4->α5->oz}{Of:α0->α1->α2->α3->α4->α5->List OE}{α6 α7:Type}
section
variable{E:En}
def J6{id:Nat}{h3:Prop}{Of:List OE}{Gf:oz}(hK:h3->AT E hf .normal (Of) (Gf))(h:(h3->AT E hf .normal (Of) (Gf))->CG E (Exit.inBlock id hf) c O G):CG E hf (.block id c) O G:=am (h hK)
def J1{x y:Code}{h3:Prop}{Of:List OE}{Gf:oz}(hK:h3->CG E hf y (Of) (Gf))
  (h:(h3->AT E (Exit.then (y.wpIn (fw E.r) 0 E.P hf) hf) .normal (Of) (Gf))->CG E (Exit.then (y.wpIn (fw E.r) 0 E.P hf) hf) x O G):CG E hf (.seq x y) O G:=aw (h (fun hz=>hK hz))
def fj{h3:List β->α0->Prop}{Of:List β->α0->List OE}{Gf:List β->α0->oz}(h0: ∀x0,h3 [] x0->LG E hf c (Of [] x0) (Gf [] x0))(h: ∀b l,(∀x0,h3 l x0->LG E hf c (Of l x0) (Gf l x0))-> ∀x0,h3 (b::l) x0->LG E hf c (Of (b::l) x0) (Gf (b::l) x0)): ∀l,∀x0,h3 l x0->LG E hf c (Of l x0) (Gf l x0)
 |[]=>h0
 |b::l=>h b l (fj h0 h l)
def Sk{h3:Nat->α0->Prop}{Of:Nat->α0->List OE}{Gf:Nat->α0->oz}(h0: ∀x0,h3 0 x0->LG E hf c (Of 0 x0) (Gf 0 x0))(h: ∀n,(∀x0,h3 n x0->LG E hf c (Of n x0) (Gf n x0))-> ∀x0,h3 (n+1) x0->LG E hf c (Of (n+1) x0) (Gf (n+1) x0)): ∀n,∀x0,h3 n x0->LG E hf c (Of n x0) (Gf n x0)
 |0=>h0
 |n+1=>h n (Sk h0 h n)
def J5{id:Nat}{h3:α0->Prop}{Of:α0->List OE}{Gf:α0->oz}(hK: ∀x0,h3 x0->AT E hf .normal (Of x0) (Gf x0))(h:(∀x0,h3 x0->AT E hf .normal (Of x0) (Gf x0))->CG E (Exit.inBlock id hf) c O G):CG E hf (.block id c) O G:=am (h hK)
def fL{x y:Code}{h3:α0->Prop}{Of:α0->List OE}{Gf:α0->oz}(hK: ∀x0,h3 x0->CG E hf y (Of x0) (Gf x0))(h:(∀x0,h3 x0->AT E (Exit.then (y.wpIn (fw E.r) 0 E.P hf) hf) .normal (Of x0) (Gf x0))->CG E (Exit.then (y.wpIn (fw E.r) 0 E.P hf) hf) x O G):CG E hf (.seq x y) O G:=aw (h (fun x0=>fun hz=>hK x0 hz))
def qc{h3:List β->α0->α1->Prop}{Of:List β->α0->α1->List OE}{Gf:List β->α0->α1->oz}(h0: ∀x0 x1,h3 [] x0 x1->LG E hf c (Of [] x0 x1) (Gf [] x0 x1))(h: ∀b l,(∀x0 x1,h3 l x0 x1->LG E hf c (Of l x0 x1) (Gf l x0 x1))-> ∀x0 x1,h3 (b::l) x0 x1->LG E hf c (Of (b::l) x0 x1) (Gf (b::l) x0 x1)): ∀l,∀x0 x1,h3 l x0 x1->LG E hf c (Of l x0 x1) (Gf l x0 x1)
 |[]=>h0
 |b::l=>h b l (qc h0 h l)
def J4{id:Nat}{h3:α0->α1->Prop}{Of:α0->α1->List OE}{Gf:α0->α1->oz}(hK: ∀x0 x1,h3 x0 x1->AT E hf .normal (Of x0 x1) (Gf x0 x1))(h:(∀x0 x1,h3 x0 x1->AT E hf .normal (Of x0 x1) (Gf x0 x1))->CG E (Exit.inBlock id hf) c O G):CG E hf (.block id c) O G:=am (h hK)
def J0{x y:Code}{h3:α0->α1->Prop}{Of:α0->α1->List OE}{Gf:α0->α1->oz}(hK: ∀x0 x1,h3 x0 x1->CG E hf y (Of x0 x1) (Gf x0 x1))(h:(∀x0 x1,h3 x0 x1->AT E (Exit.then (y.wpIn (fw E.r) 0 E.P hf) hf) .normal (Of x0 x1) (Gf x0 x1))->CG E (Exit.then (y.wpIn (fw E.r) 0 E.P hf) hf) x O G):CG E hf (.seq x y) O G:=aw (h (fun x0 x1=>fun hz=>hK x0 x1 hz))
def ox{h3:List β->α0->α1->α2->Prop}{Of:List β->α0->α1->α2->List OE}{Gf:List β->α0->α1->α2->oz}(h0: ∀x0 x1 x2,h3 [] x0 x1 x2->LG E hf c (Of [] x0 x1 x2) (Gf [] x0 x1 x2))(h: ∀b l,(∀x0 x1 x2,h3 l x0 x1 x2->LG E hf c (Of l x0 x1 x2) (Gf l x0 x1 x2))-> ∀x0 x1 x2,h3 (b::l) x0 x1 x2->LG E hf c (Of (b::l) x0 x1 x2) (Gf (b::l) x0 x1 x2)): ∀l,∀x0 x1 x2,h3 l x0 x1 x2->LG E hf c (Of l x0 x1 x2) (Gf l x0 x1 x2)
 |[]=>h0
 |b::l=>h b l (ox h0 h l)
def Sj{h3:Nat->α0->α1->α2->Prop}{Of:Nat->α0->α1->α2->List OE}{Gf:Nat->α0->α1->α2->oz}(h0: ∀x0 x1 x2,h3 0 x0 x1 x2->LG E hf c (Of 0 x0 x1 x2) (Gf 0 x0 x1 x2))(h: ∀n,(∀x0 x1 x2,h3 n x0 x1 x2->LG E hf c (Of n x0 x1 x2) (Gf n x0 x1 x2))-> ∀x0 x1 x2,h3 (n+1) x0 x1 x2->LG E hf c (Of (n+1) x0 x1 x2) (Gf (n+1) x0 x1 x2)): ∀n,∀x0 x1 x2,h3 n x0 x1 x2->LG E hf c (Of n x0 x1 x2) (Gf n x0 x1 x2)
 |0=>h0
 |n+1=>h n (Sj h0 h n)
def Ul{x y:Code}{h3:α0->α1->α2->Prop}{Of:α0->α1->α2->List OE}{Gf:α0->α1->α2->oz}(hK: ∀x0 x1 x2,h3 x0 x1 x2->CG E hf y (Of x0 x1 x2) (Gf x0 x1 x2))(h:(∀x0 x1 x2,h3 x0 x1 x2->AT E (Exit.then (y.wpIn (fw E.r) 0 E.P hf) hf) .normal (Of x0 x1 x2) (Gf x0 x1 x2))->CG E (Exit.then (y.wpIn (fw E.r) 0 E.P hf) hf) x O G):CG E hf (.seq x y) O G:=aw (h (fun x0 x1 x2=>fun hz=>hK x0 x1 x2 hz))
def LH{h3:Nat->α0->α1->α2->α3->Prop}{Of:α0->α1->α2->α3->List OE}{Gf:α0->α1->α2->α3->oz}(h0: ∀x0 x1 x2 x3,h3 0 x0 x1 x2 x3->False)(h: ∀n,(∀x0 x1 x2 x3,h3 n x0 x1 x2 x3->LG E hf c (Of x0 x1 x2 x3) (Gf x0 x1 x2 x3))-> ∀x0 x1 x2 x3,h3 (n+1) x0 x1 x2 x3->LG E hf c (Of x0 x1 x2 x3) (Gf x0 x1 x2 x3)): ∀n,∀x0 x1 x2 x3,h3 n x0 x1 x2 x3->LG E hf c (Of x0 x1 x2 x3) (Gf x0 x1 x2 x3)
 |0=>fun x0 x1 x2 x3 hz=>(h0 x0 x1 x2 x3 hz).elim
 |n+1=>h n (LH h0 h n)
def qb{h3:List β->α0->α1->α2->α3->Prop}{Of:List β->α0->α1->α2->α3->List OE}{Gf:List β->α0->α1->α2->α3->oz}(h0: ∀x0 x1 x2 x3,h3 [] x0 x1 x2 x3->LG E hf c (Of [] x0 x1 x2 x3) (Gf [] x0 x1 x2 x3))(h: ∀b l,(∀x0 x1 x2 x3,h3 l x0 x1 x2 x3->LG E hf c (Of l x0 x1 x2 x3) (Gf l x0 x1 x2 x3))-> ∀x0 x1 x2 x3,h3 (b::l) x0 x1 x2 x3->LG E hf c (Of (b::l) x0 x1 x2 x3) (Gf (b::l) x0 x1 x2 x3)): ∀l,∀x0 x1 x2 x3,h3 l x0 x1 x2 x3->LG E hf c (Of l x0 x1 x2 x3) (Gf l x0 x1 x2 x3)
 |[]=>h0
 |b::l=>h b l (qb h0 h l)
def Uo{id:Nat}{h3:α0->α1->α2->α3->Prop}{Of:α0->α1->α2->α3->List OE}{Gf:α0->α1->α2->α3->oz}(hK: ∀x0 x1 x2 x3,h3 x0 x1 x2 x3->AT E hf .normal (Of x0 x1 x2 x3) (Gf x0 x1 x2 x3))(h:(∀x0 x1 x2 x3,h3 x0 x1 x2 x3->AT E hf .normal (Of x0 x1 x2 x3) (Gf x0 x1 x2 x3))->CG E (Exit.inBlock id hf) c O G):CG E hf (.block id c) O G:=am (h hK)
def yB{h3:List β->α0->α1->α2->α3->α4->Prop}{Of:List β->α0->α1->α2->α3->α4->List OE}{Gf:List β->α0->α1->α2->α3->α4->oz}(h0: ∀x0 x1 x2 x3 x4,h3 [] x0 x1 x2 x3 x4->LG E hf c (Of [] x0 x1 x2 x3 x4) (Gf [] x0 x1 x2 x3 x4))(h: ∀b l,(∀x0 x1 x2 x3 x4,h3 l x0 x1 x2 x3 x4->LG E hf c (Of l x0 x1 x2 x3 x4) (Gf l x0 x1 x2 x3 x4))-> ∀x0 x1 x2 x3 x4,h3 (b::l) x0 x1 x2 x3 x4->LG E hf c (Of (b::l) x0 x1 x2 x3 x4) (Gf (b::l) x0 x1 x2 x3 x4)): ∀l,∀x0 x1 x2 x3 x4,h3 l x0 x1 x2 x3 x4->LG E hf c (Of l x0 x1 x2 x3 x4) (Gf l x0 x1 x2 x3 x4)
 |[]=>h0
 |b::l=>h b l (yB h0 h l)
def Sl{h3:Nat->α0->α1->α2->α3->α4->α5->Prop}(h0: ∀x0 x1 x2 x3 x4 x5,h3 0 x0 x1 x2 x3 x4 x5->False)(h: ∀n,(∀x0 x1 x2 x3 x4 x5,h3 n x0 x1 x2 x3 x4 x5->LG E hf c (Of x0 x1 x2 x3 x4 x5) (Gf x0 x1 x2 x3 x4 x5))-> ∀x0 x1 x2 x3 x4 x5,h3 (n+1) x0 x1 x2 x3 x4 x5->LG E hf c (Of x0 x1 x2 x3 x4 x5) (Gf x0 x1 x2 x3 x4 x5)): ∀n,∀x0 x1 x2 x3 x4 x5,h3 n x0 x1 x2 x3 x4 x5->LG E hf c (Of x0 x1 x2 x3 x4 x5) (Gf x0 x1 x2 x3 x4 x5)
 |0=>fun x0 x1 x2 x3 x4 x5 hz=>(h0 x0 x1 x2 x3 x4 x5 hz).elim
 |n+1=>h n (Sl h0 h n)
def On{h3:List β->α0->α1->α2->α3->α4->α5->Prop}{Of:List β->α0->α1->α2->α3->α4->α5->List OE}{Gf:List β->α0->α1->α2->α3->α4->α5->oz}(h0: ∀x0 x1 x2 x3 x4 x5,h3 [] x0 x1 x2 x3 x4 x5->LG E hf c (Of [] x0 x1 x2 x3 x4 x5) (Gf [] x0 x1 x2 x3 x4 x5))(h: ∀b l,(∀x0 x1 x2 x3 x4 x5,h3 l x0 x1 x2 x3 x4 x5->LG E hf c (Of l x0 x1 x2 x3 x4 x5) (Gf l x0 x1 x2 x3 x4 x5))-> ∀x0 x1 x2 x3 x4 x5,h3 (b::l) x0 x1 x2 x3 x4 x5->LG E hf c (Of (b::l) x0 x1 x2 x3 x4 x5) (Gf (b::l) x0 x1 x2 x3 x4 x5)): ∀l,∀x0 x1 x2 x3 x4 x5,h3 l x0 x1 x2 x3 x4 x5->LG E hf c (Of l x0 x1 x2 x3 x4 x5) (Gf l x0 x1 x2 x3 x4 x5)
 |[]=>h0
 |b::l=>h b l (On h0 h l)
def EW{id:Nat}{h3:α0->α1->α2->α3->α4->α5->Prop}(hK: ∀x0 x1 x2 x3 x4 x5,h3 x0 x1 x2 x3 x4 x5->AT E hf .normal (Of x0 x1 x2 x3 x4 x5) (Gf x0 x1 x2 x3 x4 x5))(h:(∀x0 x1 x2 x3 x4 x5,h3 x0 x1 x2 x3 x4 x5->AT E hf .normal (Of x0 x1 x2 x3 x4 x5) (Gf x0 x1 x2 x3 x4 x5))->CG E (Exit.inBlock id hf) c O G):CG E hf (.block id c) O G:=am (h hK)
def Uk{x y:Code}{h3:α0->α1->α2->α3->α4->α5->Prop}(hK: ∀x0 x1 x2 x3 x4 x5,h3 x0 x1 x2 x3 x4 x5->CG E hf y (Of x0 x1 x2 x3 x4 x5) (Gf x0 x1 x2 x3 x4 x5))(h:(∀x0 x1 x2 x3 x4 x5,h3 x0 x1 x2 x3 x4 x5->AT E (Exit.then (y.wpIn (fw E.r) 0 E.P hf) hf) .normal (Of x0 x1 x2 x3 x4 x5) (Gf x0 x1 x2 x3 x4 x5))->CG E (Exit.then (y.wpIn (fw E.r) 0 E.P hf) hf) x O G):CG E hf (.seq x y) O G:=aw (h (fun x0 x1 x2 x3 x4 x5=>fun hz=>hK x0 x1 x2 x3 x4 x5 hz))
def DY{h3:List β->α0->α1->α2->α3->α4->α5->α6->Prop}{Of:List β->α0->α1->α2->α3->α4->α5->α6->List OE}{Gf:List β->α0->α1->α2->α3->α4->α5->α6->oz}(h0: ∀x0 x1 x2 x3 x4 x5 x6,h3 [] x0 x1 x2 x3 x4 x5 x6->LG E hf c (Of [] x0 x1 x2 x3 x4 x5 x6) (Gf [] x0 x1 x2 x3 x4 x5 x6))(h: ∀b l,(∀x0 x1 x2 x3 x4 x5 x6,h3 l x0 x1 x2 x3 x4 x5 x6->LG E hf c (Of l x0 x1 x2 x3 x4 x5 x6) (Gf l x0 x1 x2 x3 x4 x5 x6))-> ∀x0 x1 x2 x3 x4 x5 x6,h3 (b::l) x0 x1 x2 x3 x4 x5 x6->LG E hf c (Of (b::l) x0 x1 x2 x3 x4 x5 x6) (Gf (b::l) x0 x1 x2 x3 x4 x5 x6)): ∀l,∀x0 x1 x2 x3 x4 x5 x6,h3 l x0 x1 x2 x3 x4 x5 x6->LG E hf c (Of l x0 x1 x2 x3 x4 x5 x6) (Gf l x0 x1 x2 x3 x4 x5 x6)
 |[]=>h0
 |b::l=>h b l (DY h0 h l)
def EU{x y:Code}{h3:α0->α1->α2->α3->α4->α5->α6->Prop}{Of:α0->α1->α2->α3->α4->α5->α6->List OE}{Gf:α0->α1->α2->α3->α4->α5->α6->oz}(hK: ∀x0 x1 x2 x3 x4 x5 x6,h3 x0 x1 x2 x3 x4 x5 x6->CG E hf y (Of x0 x1 x2 x3 x4 x5 x6) (Gf x0 x1 x2 x3 x4 x5 x6))(h:(∀x0 x1 x2 x3 x4 x5 x6,h3 x0 x1 x2 x3 x4 x5 x6->AT E (Exit.then (y.wpIn (fw E.r) 0 E.P hf) hf) .normal (Of x0 x1 x2 x3 x4 x5 x6) (Gf x0 x1 x2 x3 x4 x5 x6))->CG E (Exit.then (y.wpIn (fw E.r) 0 E.P hf) hf) x O G):CG E hf (.seq x y) O G:=aw (h (fun x0 x1 x2 x3 x4 x5 x6=>fun hz=>hK x0 x1 x2 x3 x4 x5 x6 hz))
def wS{h3:List β->α0->α1->α2->α3->α4->α5->α6->α7->Prop}{Of:List β->α0->α1->α2->α3->α4->α5->α6->α7->List OE}{Gf:List β->α0->α1->α2->α3->α4->α5->α6->α7->oz}(h0: ∀x0 x1 x2 x3 x4 x5 x6 x7,h3 [] x0 x1 x2 x3 x4 x5 x6 x7->LG E hf c (Of [] x0 x1 x2 x3 x4 x5 x6 x7) (Gf [] x0 x1 x2 x3 x4 x5 x6 x7))(h: ∀b l,(∀x0 x1 x2 x3 x4 x5 x6 x7,h3 l x0 x1 x2 x3 x4 x5 x6 x7->LG E hf c (Of l x0 x1 x2 x3 x4 x5 x6 x7) (Gf l x0 x1 x2 x3 x4 x5 x6 x7))-> ∀x0 x1 x2 x3 x4 x5 x6 x7,h3 (b::l) x0 x1 x2 x3 x4 x5 x6 x7->LG E hf c (Of (b::l) x0 x1 x2 x3 x4 x5 x6 x7) (Gf (b::l) x0 x1 x2 x3 x4 x5 x6 x7)): ∀l,∀x0 x1 x2 x3 x4 x5 x6 x7,h3 l x0 x1 x2 x3 x4 x5 x6 x7->LG E hf c (Of l x0 x1 x2 x3 x4 x5 x6 x7) (Gf l x0 x1 x2 x3 x4 x5 x6 x7)
 |[]=>h0
 |b::l=>h b l (wS h0 h l)
def DX{α8:Type}{h3:List β->α0->α1->α2->α3->α4->α5->α6->α7->α8->Prop}{Of:List β->α0->α1->α2->α3->α4->α5->α6->α7->α8->List OE}{Gf:List β->α0->α1->α2->α3->α4->α5->α6->α7->α8->oz}(h0: ∀x0 x1 x2 x3 x4 x5 x6 x7 x8,h3 [] x0 x1 x2 x3 x4 x5 x6 x7 x8->LG E hf c (Of [] x0 x1 x2 x3 x4 x5 x6 x7 x8) (Gf [] x0 x1 x2 x3 x4 x5 x6 x7 x8))(h: ∀b l,(∀x0 x1 x2 x3 x4 x5 x6 x7 x8,h3 l x0 x1 x2 x3 x4 x5 x6 x7 x8->LG E hf c (Of l x0 x1 x2 x3 x4 x5 x6 x7 x8) (Gf l x0 x1 x2 x3 x4 x5 x6 x7 x8))-> ∀x0 x1 x2 x3 x4 x5 x6 x7 x8,h3 (b::l) x0 x1 x2 x3 x4 x5 x6 x7 x8->LG E hf c (Of (b::l) x0 x1 x2 x3 x4 x5 x6 x7 x8) (Gf (b::l) x0 x1 x2 x3 x4 x5 x6 x7 x8)): ∀l,∀x0 x1 x2 x3 x4 x5 x6 x7 x8,h3 l x0 x1 x2 x3 x4 x5 x6 x7 x8->LG E hf c (Of l x0 x1 x2 x3 x4 x5 x6 x7 x8) (Gf l x0 x1 x2 x3 x4 x5 x6 x7 x8)
 |[]=>h0
 |b::l=>h b l (DX h0 h l)
def Si{α8:Type}{h3:Nat->α0->α1->α2->α3->α4->α5->α6->α7->α8->Prop}{Of:Nat->α0->α1->α2->α3->α4->α5->α6->α7->α8->List OE}{Gf:Nat->α0->α1->α2->α3->α4->α5->α6->α7->α8->oz}(h0: ∀x0 x1 x2 x3 x4 x5 x6 x7 x8,h3 0 x0 x1 x2 x3 x4 x5 x6 x7 x8->LG E hf c (Of 0 x0 x1 x2 x3 x4 x5 x6 x7 x8) (Gf 0 x0 x1 x2 x3 x4 x5 x6 x7 x8))(h: ∀n,(∀x0 x1 x2 x3 x4 x5 x6 x7 x8,h3 n x0 x1 x2 x3 x4 x5 x6 x7 x8->LG E hf c (Of n x0 x1 x2 x3 x4 x5 x6 x7 x8) (Gf n x0 x1 x2 x3 x4 x5 x6 x7 x8))-> ∀x0 x1 x2 x3 x4 x5 x6 x7 x8,h3 (n+1) x0 x1 x2 x3 x4 x5 x6 x7 x8->LG E hf c (Of (n+1) x0 x1 x2 x3 x4 x5 x6 x7 x8) (Gf (n+1) x0 x1 x2 x3 x4 x5 x6 x7 x8)): ∀n,∀x0 x1 x2 x3 x4 x5 x6 x7 x8,h3 n x0 x1 x2 x3 x4 x5 x6 x7 x8->LG E hf c (Of n x0 x1 x2 x3 x4 x5 x6 x7 x8) (Gf n x0 x1 x2 x3 x4 x5 x6 x7 x8)
 |0=>h0
 |n+1=>h n (Si h0 h n)
end
def bs{α:Type _}{β:Type _}{x:Option α}{k:α->Option β}{r:β}(h:x.bind k=some r): ∃y,x=some y/\k y=some r:=by
 cases x with
 |none=>cases h
 |some y=>exact⟨y,rfl,h⟩
def ct{β:Type _}{x y:Option β}{r:β}(h:(if b=true then x else y)=some r)(K:b=true):x=some r:=by rwa [bq K]at h
def cf{β:Type _}{x y:Option β}{r:β}(h:(if b=true then x else y)=some r)(K:b=false):y=some r:=by rwa [aZ (by rw [K];decide)]at h
def so{β:Type _}{x r:β}(h:some x=some r):x=r:=by simpa using h
def og [Inhabited α]{x:Option α}{k:α->Option β}{d:Option β}{r:β}(h:(if b=true then x.bind k else d)=some r): ∃y,(b=true->x=some y/\k y=some r)/\(b=false->d=some r):=by
 cases b with
 |true=>obtain⟨y,D,V⟩:=bs (ct h rfl);exact⟨y,fun _=>⟨D,V⟩,fun e=>(by cases e)⟩
 |false=>exact⟨default,fun e=>(by cases e),fun _=>cf h rfl⟩
def cu{α β:Type}(p:Rp α)(q:Rp β):Rp (α×β) where
 sz:=p.sz+q.sz
 agg:=true
 rc:=fun S cs x=> ∃a b,cs=a++b/\p.rc S a x.1/\q.rc S b x.2
 mono:=fun h ⟨a,b,e,D,V⟩=>⟨a,b,e,p.mono h D,q.mono h V⟩
 len:=fun⟨a,b,e,D,V⟩=>by rw [e,jY,p.len D,q.len V]
 one:=fun⟨a,b,e,D,V⟩ c hc=>by
  rw [e]at hc;rcases oO.1 hc with h|h
  ·exact p.one D c h
  ·exact q.one V c h
 sc:=fun h=>by cases h
def nS{α β:Type}(p:Rp α)(f:β->α):Rp β where
 sz:=p.sz
 agg:=true
 rc:=fun S cs x=>p.rc S cs (f x)
 mono:=fun h k=>p.mono h k
 len:=fun h=>p.len h
 one:=fun h=>p.one h
 sc:=fun h=>by cases h
def ci{p:Rp α}{f:β->α}:mT (nS p f) 0 p f:=fun S cs x h=>by
 have h' :p.rc S cs (f x):=h;have hl:=p.len h';rw [vj,<-hl,BH];exact h'
def dz{γ:Type}{p:Rp α}{q:Rp β}{r:Rp γ}{get:γ->α×β}(h:mT r off (cu p q) get):mT r off p (fun x=>(get x).1):=fun S cs x k=>by
 obtain⟨a,b,e,D,V⟩:=h S cs x k;have hl:=p.len D;have hl2:=q.len V;have:(cs.drop off).take p.sz=a:=by
  have e2:=congrArg (List.take p.sz) e;rw [B5,Bq (by show p.sz<=p.sz+q.sz;omega),<-hl,List.take_left]at e2;rw [<-hl];exact e2
 rw [this];exact D
def av{γ:Type}{p:Rp α}{q:Rp β}{r:Rp γ}{off' :Nat}{get:γ->α×β}(h:mT r off (cu p q) get)(ho:off' =off+p.sz):mT r off' q (fun x=>(get x).2):=fun S cs x k=>by
 obtain⟨a,b,e,D,V⟩:=h S cs x k;have hl:=p.len D;have hl2:=q.len V;have:(cs.drop off').take q.sz=b:=by
  have e2:=congrArg (List.drop p.sz) e;rw [BF,vE,<-hl,List.drop_left]at e2;rw [ho,<-hl,<-e2];congr 1;show q.sz=p.sz+q.sz-a.length;omega
 rw [this];exact V
section
variable{E:En}
def Y8{op:Op}{ty:TypeId}(hj:(ops[j]?).bind (·.dst)=some gs)(hgs:Nat.blt gs E.N.n=true)(H:look G gs=some (tD rB b))(hd:Nat.blt d E.N.n=true)(h:b=true->ck E O G ⟨some d,op,ty,pos,after,some (j,true)⟩ t)(k:RG E ops hf rest O ((d,pI b t)::G)):RG E ops hf (⟨some d,op,ty,pos,after,some (j,true)⟩::rest) O G:=by
 have e:(true&&(b==true))=b:=by cases b<;>rfl
 exact LC hj hgs (sQ H) hd (by rw [e];exact h) (by rw [e];exact k)
def Y9{op:Op}{ty:TypeId}(hj:(ops[j]?).bind (·.dst)=some gs)(hgs:Nat.blt gs E.N.n=true)(H:look G gs=some (tD rB b))(hd:Nat.blt d E.N.n=true)(h:(!b)=true->ck E O G ⟨some d,op,ty,pos,after,some (j,false)⟩ t)(k:RG E ops hf rest O ((d,pI (!b) t)::G)):RG E ops hf (⟨some d,op,ty,pos,after,some (j,false)⟩::rest) O G:=by
 have e:(true&&(b==false))= !b:=by cases b<;>rfl
 exact LC hj hgs (sQ H) hd (by rw [e];exact h) (by rw [e];exact k)
def lr{c:Bool}{op:Op}{ty:TypeId}(hj:(ops[j]?).bind (·.dst)=some gs)(hgs:Nat.blt gs E.N.n=true)(H:look G gs=some (pI c (tD rB b)))(hd:Nat.blt d E.N.n=true)(h:(c&&b)=true->ck E O G ⟨some d,op,ty,pos,after,some (j,true)⟩ t)(k:RG E ops hf rest O ((d,pI (c&&b) t)::G)):RG E ops hf (⟨some d,op,ty,pos,after,some (j,true)⟩::rest) O G:=by
 have e:(c&&(b==true))=(c&&b):=by cases b<;>rfl
 exact LC hj hgs (EE H) hd (by rw [e];exact h) (by rw [e];exact k)
def cW{c:Bool}{op:Op}{ty:TypeId}(hj:(ops[j]?).bind (·.dst)=some gs)(hgs:Nat.blt gs E.N.n=true)(H:look G gs=some (pI c (tD rB b)))(hd:Nat.blt d E.N.n=true)(h:(c&& !b)=true->ck E O G ⟨some d,op,ty,pos,after,some (j,false)⟩ t)(k:RG E ops hf rest O ((d,pI (c&& !b) t)::G)):RG E ops hf (⟨some d,op,ty,pos,after,some (j,false)⟩::rest) O G:=by
 have e:(c&&(b==false))=(c&& !b):=by cases b<;>rfl
 exact LC hj hgs (EE H) hd (by rw [e];exact h) (by rw [e];exact k)
def cX{l:List Oper}{need:oz}(H:o.guard=some (j,true))(hj:((l.toArray)[j]?).bind (·.dst)=some gs)(hgs:Nat.blt gs E.N.n=true)(K:look need gs=some (tD rB b))(h:b=true->ck E O need o t):bF E O l.toArray need o (pI b t):=by
 have e:(true&&(b==true))=b:=by cases b<;>rfl
 have:=AR (t:=t) H hj hgs (sQ (E:=E) K) (by rw [e];exact h)
 rwa [e]at this
def ga{l:List Oper}{need:oz}(H:o.guard=some (j,false))(hj:((l.toArray)[j]?).bind (·.dst)=some gs)(hgs:Nat.blt gs E.N.n=true)(K:look need gs=some (tD rB b))(h:(!b)=true->ck E O need o t):bF E O l.toArray need o (pI (!b) t):=by
 have e:(true&&(b==false))= !b:=by cases b<;>rfl
 have:=AR (t:=t) H hj hgs (sQ (E:=E) K) (by rw [e];exact h)
 rwa [e]at this
def xz{l:List Oper}{need:oz}{c:Bool}(H:o.guard=some (j,false))(hj:((l.toArray)[j]?).bind (·.dst)=some gs)(hgs:Nat.blt gs E.N.n=true)(K:look need gs=some (pI c (tD rB b)))(h:(c&& !b)=true->ck E O need o t):bF E O l.toArray need o (pI (c&& !b) t):=by
 have e:(c&&(b==false))=(c&& !b):=by cases b<;>rfl
 have:=AR (t:=t) H hj hgs (EE (E:=E) K) (by rw [e];exact h)
 rwa [e]at this
def wY{a:Bool}(h:a=true)(k:b=true):(a&&b)=true:=by rw [h,k];rfl
def sn{a:Bool}(h:a=false):(!a)=true:=by rw [h];rfl
def wT{c:Operand}{x y:Code}(K:aG E.N G c (tD rB b))(h:b=true)(I:CG E hf x O G):CG E hf (.cond c x y) O G:=qC K (fun _=>I) (fun e=>by rw [h]at e;cases e)
def wU{c:Operand}{x y:Code}(K:aG E.N G c (tD rB b))(h:b=false)(hy:CG E hf y O G):CG E hf (.cond c x y) O G:=qC K (fun e=>by rw [h]at e;cases e) (fun _=>hy)
end
def WL [Inhabited α]{x:Option α}{k:α->Option β}{r:β}(h:b=true->x.bind k=some r): ∃y,b=true->x=some y/\k y=some r:=by
 cases b with
 |true=>obtain⟨y,D,V⟩:=bs (h rfl);exact⟨y,fun _=>⟨D,V⟩⟩
 |false=>exact⟨default,fun e=>(by cases e)⟩
section
variable{E:En}{ty:TypeId}
def sl{c:Operand}(hc:aG E.N G c (tD rB b))(I:b=true->aG E.N G x (tD rB q)):ck E O G ⟨dst,.pick c x (.const (.bool false)),ty,pos,after,g⟩ (tD rB (b&&q)):=by
 refine A9 hc (fun h=>?_) (fun h=>?_)
 ·subst h;exact I rfl
 ·subst h;exact hB
def nh{c:Operand}(hc:aG E.N G c (tD rB b))(I:b=false->aG E.N G x (tD rB q)):ck E O G ⟨dst,.pick c (.const (.bool true)) x,ty,pos,after,g⟩ (tD rB (b||q)):=by
 refine A9 hc (fun h=>?_) (fun h=>?_)
 ·subst h;exact hB
 ·subst h;exact I rfl
def dW{c:Operand}{t:Bool}(hc:aG E.N G c (tD rB b))(I:b=true->aG E.N G x (tD rB q))(e1:b=true->some q=some t)(e0:b=false->some false=some t):ck E O G ⟨dst,.pick c x (.const (.bool false)),ty,pos,after,g⟩ (tD rB t):=by
 refine A9 hc (fun h=>?_) (fun h=>?_)
 ·rw [<-so (e1 h)];exact I h
 ·rw [<-so (e0 h)];exact hB
def iz{c:Operand}{t:Bool}(hc:aG E.N G c (tD rB b))(I:b=false->aG E.N G x (tD rB q))(e1:(!b)=true->some q=some t)(e0:(!b)=false->some true=some t):ck E O G ⟨dst,.pick c (.const (.bool true)) x,ty,pos,after,g⟩ (tD rB t):=by
 refine A9 hc (fun h=>?_) (fun h=>?_)
 ·rw [<-so (e0 (by rw [h];rfl))];exact hB
 ·rw [<-so (e1 (by rw [h];rfl))];exact I h
def Hw(hi:ts[i]? =some t)(I:aG E.N G x (tT ts)):ck E O G ⟨dst,.extract x i,ty,pos,after,g⟩ t:=
 .of_pure fun a w S _ _ Q=>by
  obtain⟨vs,D,V⟩:=I S a Q;obtain⟨v,Z,h4⟩:=V.h_ i t hi;exact⟨v,by simp [execOp,D,Instr.extract,Z],h4⟩
def KM{k:IntKind}{m n:Int}(I:aG E.N G x (tD (rI k) m))(hy:aG E.N G y (tD (rI k) n)):ck E O G ⟨dst,.call ⟨.builtin .max,#[x,y],ats⟩,ty,pos,after,g⟩ (tD (rI k) (max m n)):=
 .of_pure fun a w S _ _ Q=>by
  have D:a.eval x= .int k m:=gm.1 (I S a Q);have V:a.eval y= .int k n:=gm.1 (hy S a Q);refine⟨.int k (if n>m then n else m),by simp [execOp,resolve,invoke,builtin,Builtin.max_,Builtin.max2,D,V],gm.2 ?_⟩;congr 1;rw [Int.max_def];split<;>split<;>omega
def Rn{k:IntKind}{m n:Int}(I:aG E.N G x (tD (rI k) m))(hy:aG E.N G y (tD (rI k) n)):ck E O G ⟨dst,.call ⟨.builtin .min,#[x,y],ats⟩,ty,pos,after,g⟩ (tD (rI k) (min m n)):=
 .of_pure fun a w S _ _ Q=>by
  have D:a.eval x= .int k m:=gm.1 (I S a Q);have V:a.eval y= .int k n:=gm.1 (hy S a Q);refine⟨.int k (if n<m then n else m),by simp [execOp,resolve,invoke,builtin,Builtin.min_,Builtin.min2,D,V],gm.2 ?_⟩;congr 1;rw [Int.min_def];split<;>split<;>omega
def iM(P:Program){α β:Type}(args:α->List Ty)(res:β->Ty)(f:α->Option β):Ty where
 p:=fun S v=> ∃E_ cap,v= .func (.func E_) #[] cap/\af P E_=true/\ ∀x y,f x=some y-> ∀w S' vs,SH.le S S' ->kQ w S' ->yw S' (args x) vs->
  Calls P E_ (vs.toArray++cap) w fun e w' => ∃v S'',e= .returned v/\ji sq w S' w' S'' /\kQ w' S'' /\(res y).p S'' v
 mono:=fun h ⟨f,cap,e,hc,k⟩=>⟨f,cap,e,hc,fun x y hxy w S' vs hle=>k x y hxy w S' vs (SH.le_trans h hle)⟩
def Ii{N:Fr}{P:Program}{f:α->Option β}{E_:FuncId}(hc:af P E_=true)(hs: ∀x y,f x=some y->cN P E_ (args x) (res y)):aG N G (.func E_) (iM P args res f):=fun S a _=>
 ⟨E_,#[],rfl,hc,fun x y h w S' vs _ C_ hv=>by simpa using hs x y h w S' vs C_ hv⟩
def yw.append: ∀{ts us:List Ty} {vs ws:List Value},yw S ts vs->yw S us ws->yw S (ts++us) (vs++ws)
 |[],_,[],_,_,h=>h
 |_::_,_,_::_,_,⟨D,V⟩,h=>⟨D,yw.append V h⟩
def kW{f:α->Option β}{E_:FuncId}{L_:List Operand}{cts:List Ty}(hc:af E.P E_=true)(hcap:k5 E.N G L_ cts)(hs: ∀x y,f x=some y->cN E.P E_ (args x++cts) (res y)):ck E O G ⟨dst,.makeFunc (.func E_) #[] L_.toArray,ty,pos,after,g⟩ (iM E.P args res f):=
 .of_pure fun a w S _ _ Q=>by
  refine⟨.func (.func E_) #[] (L_.map a.eval).toArray,by simp [execOp,Instr.makeFunc],E_,_,rfl,hc,fun x y h w' S' vs hle C_ hv=>?_⟩;have hcv:=(hcap.tys Q).mono hle;simpa using hs x y h w' S' _ C_ (hv.append hcv)
def kE{f:α->Option β}{fo:Operand}{x:α}{y:β}{xs:List Operand}(hfo:aG E.N G fo (iM E.P args res f))(h:f x=some y)(I:k5 E.N G xs (args x)):
  ck E O G ⟨dst,.call ⟨.value fo,xs.toArray,ats⟩,ty,pos,after,g⟩ (res y):=fun a w S hS _ hF=>by
 obtain⟨E_,cap,e,hc,hs⟩:=hfo S a hF;have hr:(execOp a.eval ⟨dst,.call ⟨.value fo,xs.toArray,ats⟩,ty,pos,after,g⟩).run E.P w= .ok (.enter E_ ((xs.map a.eval).toArray++cap)) w:=by
  simp [execOp,resolve,e,Deferred.ofValue,invoke,gT hc]
 refine⟨fun c h=>(by cases h),?_⟩;rw [hr];exact(hs x y h w S _ (SH.le_refl _) hS (I.tys hF)).mono fun e w' ⟨v,S',he,D,V,Z⟩=>⟨v,he,v,S',rfl,D,V,Z⟩
end
def cN.of{P:Program}{N:Nat}(Q:P.funcs[f]? =some fn)(K:fn.body=some c)(hN:fn.ntmps=N)(hn:Nat.ble ts.length N=true)(h: ∀w0 S0,CG ⟨P,⟨N,[]⟩,sq,w0,S0,none⟩ (bodyPost P fn (IE ⟨P,⟨N,[]⟩,sq,w0,S0,none⟩ t)) c [] (wE 0 ts)):cN P f ts t:=by
 subst hN;exact LB Q K (rx hn) h
def nn{α:Type _}{r:α}(h:(none:Option α)=some r):False:=by cases h
def xq{N:Fr}:aG N G (.const (.slice none 0 0)) (tV (ak none 0 0)):=fun _ _ _=>rfl
def ko:Nat:=2^64
section
variable{E:En}{ty:TypeId}
def PA(l:Option Nat)(cap n:Nat)(h:l=none->n=0): ∃a c,ak l cap n= .slice a n c:=by
 cases l with
 |none=>rw [h rfl];exact⟨none,0,rfl⟩
 |some b=>exact⟨_,cap,rfl⟩
def iF{r:Rp α}{n:Nat}{t:TypeId}(Y:E.P.underlying t=some (.slice e))(hm:nU mm r T l cap xs∈O)(I:aG E.N G x (tV (ak l cap n)))(hn:n=xs.length:=by rfl):
  ck E O G ⟨dst,.call ⟨.builtin .len,#[x],#[t]⟩,ty,pos,after,g⟩ (tD (rI .i64) (n:Int)):=
 .of_pure fun a w S _ ho Q=>by
  have D:a.eval x=ak l cap n:=I S a Q;have V:=(ho.mem _ hm).1;obtain⟨ad,c,Z⟩:=PA l cap n (fun e=>by subst e;obtain⟨_,h4,_⟩:=V;rw [hn];exact h4.1);refine⟨.int .i64 n,?_,gm.2 rfl⟩;simp [execOp,resolve,invoke,builtin,Builtin.len_,lc Y,D,Z,goInt]
end
structure Ux(P:Program){α:Type} [DecidableEq α](t:TypeId)(r:Rp α):Prop where
 guard:P.eqGuardType P.depth t=false
 run: ∀(S:SH) (cs ds:List Value) (x y:α) (d:Nat) (w:World),r.rc S cs x->r.rc S ds y->(Op.equalIn (d+20) t (r.val cs) (r.val ds)).run P w= .ok (decide (x=y)) w
section
variable{E:En}{ty:TypeId}
def FE{P:Program}{t:TypeId}(h:P.eqGuardType P.depth t=false){op:BinOp}{x y:Operand}{u v:Array Value}{w:World}:(eqGuard op t x y (.agg u) (.agg v)).run P w= .ok () w:=by
 unfold eqGuard;cases op<;>first|rfl|simp [h]
def vJ{r:Rp α}(h:r.agg=true)(cs:List Value):r.val cs= .agg cs.toArray:=by unfold Rp.val;rw [bq h]
def Rr [DecidableEq α]{r:Rp α}{m n:α}(he:Ux E.P xt r)(I:aG E.N G x (tD r m))(hy:aG E.N G y (tD r n))(ha:r.agg=true:=by rfl):ck E O G ⟨dst,.binOp .eql xt x y yt,ty,pos,after,g⟩ (tD rB (decide (m=n))):=
 .of_pure fun a w S _ _ Q=>by
  obtain⟨cs,D,V⟩:=I S a Q;obtain⟨ds,Z,h4⟩:=hy S a Q;refine⟨.bool (decide (m=n)),?_,jN.2 rfl⟩;have hr:=he.run S cs ds m n 9980 w V h4;have H:= @FE E.P xt he.guard .eql x y cs.toArray ds.toArray w;rw [vJ ha,vJ ha]at hr;simp only [execOp,D,Z,vJ ha,uc,H,vm,binOp,Op.equal,Op.maxDepth];rw [show(10000:Nat)=9980+20 from rfl,hr];simp
def Gr [DecidableEq α]{r:Rp α}{m n:α}(he:Ux E.P xt r)(I:aG E.N G x (tD r m))(hy:aG E.N G y (tD r n))(ha:r.agg=true:=by rfl):ck E O G ⟨dst,.binOp .neq xt x y yt,ty,pos,after,g⟩ (tD rB (!decide (m=n))):=
 .of_pure fun a w S _ _ Q=>by
  obtain⟨cs,D,V⟩:=I S a Q;obtain⟨ds,Z,h4⟩:=hy S a Q;refine⟨.bool (!decide (m=n)),?_,jN.2 rfl⟩;have hr:=he.run S cs ds m n 9980 w V h4;have H:= @FE E.P xt he.guard .neq x y cs.toArray ds.toArray w;rw [vJ ha,vJ ha]at hr;simp only [execOp,D,Z,vJ ha,uc,H,vm,binOp,Op.equal,Op.maxDepth];rw [show(10000:Nat)=9980+20 from rfl,hr];simp
end
