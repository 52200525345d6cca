import Derived.Test.YtadeokalnbmppaaGreatDoorReV3
import Derived.Test.YtadeokalnbmppaaGreatDoorReV2
import Derived.ProofKit
import Derived.OpenShut
import Derived.LaidMore
import Derived.Laws.Externs
import Derived.WideKeyRuns
import Derived.WideKeyEntry
import Derived.Shelf.GgSortFunc.Insertion
import Derived.Shelf.Slices.In.SortNone
import Derived.Test.YtadeokalnbmppaaGreatDoorReV1
import Derived.Shelf.Unicode.CaseTo
import Derived.Shelf.Unicode.DecodeSlow
set_option linter.all false
namespace Go.Proofs.YtadeokalnbmppaaGreatDoor
open Go
def IF(es:List Bool)(done:Array Bool):List Nat:=(List.range es.length).filter fun k=>(es[k]?).getD false&&done.getD k false
def XM(es:List Bool)(i:Nat)(s:List Nat):List Nat:=(List.range es.length).filter fun k=>Nat.beq k i||s.contains k
def eqL:List Nat->List Nat->Bool
 |[],[]=>true
 |a::s,b::t=>Nat.beq a b&&eqL s t
 |_,_=>false
variable{a:Act}{b:Nat}{t:TypeId}
def Qm: ∀{s t:List Nat},eqL s t=true->s=t
 |[],[],_=>rfl
 |a::s,b::t,h=>by
  simp only [eqL,jJ]at h;rw [rm h.1,Qm h.2]
 |[],_::_,h=>by cases h
 |_::_,[],h=>by cases h
def Uv:List (List Nat×((Nat->OI)->List OE))->List Nat->(Nat->OI)->List OE
 |[],_,_=>[]
 |p::r,s,σ=>bif eqL p.1 s then p.2 σ else Uv r s σ
variable{done:Array Bool}{es:List Bool}{k:IntKind}
def Dl{k:Nat}:k∈IF es done↔es[k]? =some true/\done.getD k false=true:=by
 unfold IF;rw [IQ,IP,jJ];constructor
 ·rintro⟨D,V,Z⟩;refine⟨?_,Z⟩;rw [qV D]at V ⊢;simpa using V
 ·rintro⟨D,V⟩;exact⟨(oC.1 D).1,by rw [D];rfl,V⟩
variable{i:Nat}
def TU(h:es[i]? =some false):IF es (done.setIfInBounds i true)=IF es done:=by
 unfold IF;refine List.filter_congr fun k hk=>?_;by_cases hik:i=k
 ·subst hik;rw [h];rfl
 ·rw [zC false hik]
def YN(h:es[i]? =some true)(hs:i<done.size):IF es (done.setIfInBounds i true)=XM es i (IF es done):=by
 unfold XM
 conv=>lhs;unfold IF
 refine List.filter_congr fun k hk=>?_;by_cases hik:i=k
 ·subst hik;simp [h,hs]
 ·rw [zC false hik];have K:Nat.beq k i=false:=by
   cases K:Nat.beq k i with
   |false=>rfl
   |true=>exact absurd (rm K).symm hik
  rw [K,yG,uQ,LS,Dl,jJ];constructor
  ·rintro⟨D,V⟩;refine⟨?_,V⟩
   cases he:es[k]? with
   |none=>rw [he]at D;cases D
   |some b=>rw [he]at D;simpa using D
  ·rintro⟨D,V⟩;exact⟨by rw [D];rfl,V⟩
def I2:List Nat->List (List Nat)
 |[]=>[[]]
 |k::l=>(I2 l).map (k:: ·)++I2 l
def Ga(es:List Bool):List Nat:=(List.range es.length).filter fun k=>(es[k]?).getD false
variable{l:Option Nat}{p:Nat}
def AD(p:Nat->Bool): ∀l:List Nat,l.filter p∈I2 l
 |[]=>np.2 rfl
 |k::l=>by
  unfold I2;rw [oO];by_cases h:p k=true
  ·rw [List.filter_cons_of_pos h];exact .inl (Bo.2 ⟨_,AD p l,rfl⟩)
  ·rw [List.filter_cons_of_neg h];exact .inr (AD p l)
def Wj(es:List Bool)(done:Array Bool):IF es done∈I2 (Ga es):=by
 have:IF es done=(Ga es).filter fun k=>done.getD k false:=by
  unfold IF Ga;rw [List.filter_filter];refine List.filter_congr fun k _=>Bool.and_comm ..
 rw [this];exact AD _ _
def noE(L:List Oper)(es:List Bool)(i:Nat)(s:List Nat):Bool:=
 s.contains i||(Ga es).any fun k=>if s.contains k then qy L L.length k i||(Ga es).any fun j=> !s.contains j&&qy L L.length k j else qy L L.length i k
def Sx(L:List Oper)(es:List Bool)(i:Nat)(aas:List (List Nat)):Bool:=(I2 (Ga es)).all fun s=>noE L es i s||aas.any fun a=>eqL a s
def Ow{α:Type}(p:α->Prop):List α->Prop
 |[]=>True
 |a::l=>p a/\Ow p l
variable{α:Type}
def Ow.mem{p:α->Prop}: ∀{l:List α},Ow p l-> ∀a∈l,p a
 |_::_,⟨h,_⟩,_,.head _=>h
 |_::_,⟨_,h⟩,_,.tail _ hm=>Ow.mem h _ hm
abbrev SsT:=List (List Nat×((Nat->OI)->List OE))
def DT(E:En)(G:oz)(L:List Oper)(ts:List TS)(Ss:SsT)(es0:List Bool):Nat->List Oper->List Bool->Prop
 |_,[],_=>True
 |i,o::rest,false::es=>(∃(needs:List NS) (t:TS) (aas:List (List Nat)),ts[i]? =some t/\zL G ts needs/\(needs.all fun n=>ro L o i (n.at fun _=>rs))=true/\fU i o=true/\TV L es0 i t=true/\Sx L es0 i aas=true/\o.dst.isSome=true/\
   Ow (fun s=> ∀σ,bF E (Uv Ss s σ) L.toArray (zI needs σ) o (t.at σ)) aas)/\DT E G L ts Ss es0 (i+1) rest es
 |i,o::rest,true::es=>(∃(needs:List NS) (t:TS) (aas:List (List Nat×List Nat)),ts[i]? =some t/\zL G ts needs/\(needs.all fun n=>ro L o i (n.at fun _=>rs))=true/\fU i o=true/\TV L es0 i t=true/\Sx L es0 i (aas.map (·.1))=true/\(aas.all fun p=>eqL (XM es0 i p.1) p.2)=true/\
   Ow (fun p:List Nat×List Nat=> ∀σ,oy E L.toArray (Uv Ss p.1 σ) (zI needs σ) o (fun x=>Uv Ss p.2 (SA σ i x)) (fun x=>t.at (SA σ i x))) aas)/\DT E G L ts Ss es0 (i+1) rest es
 |_,_::_,[]=>False
variable{E:En}{G:oz}{L:List Oper}{Ss:SsT}{e:TypeId}{j:IntKind}{n:Nat}{o:Operand}{r:Rp α}{ts:List Ty}{x:Operand}
def DT.get{ts:List TS}{es0:List Bool}: ∀(r:List Oper) (es:List Bool) (k:Nat),DT E G L ts Ss es0 k r es-> ∀(j:Nat) (o:Oper),r[j]? =some o->
    ∃e,es[j]? =some e/\ ∃(needs:List NS) (t:TS),ts[k+j]? =some t/\zL G ts needs/\(needs.all fun n=>ro L o (k+j) (n.at fun _=>rs))=true/\fU (k+j) o=true/\TV L es0 (k+j) t=true/\
      (match e with
       |false=>o.dst.isSome=true/\ ∃aas,Sx L es0 (k+j) aas=true/\Ow (fun s=> ∀σ,bF E (Uv Ss s σ) L.toArray (zI needs σ) o (t.at σ)) aas
       |true=> ∃aas:List (List Nat×List Nat),Sx L es0 (k+j) (aas.map (·.1))=true/\(aas.all fun p=>eqL (XM es0 (k+j) p.1) p.2)=true/\Ow (fun p:List Nat×List Nat=> ∀σ,oy E L.toArray (Uv Ss p.1 σ) (zI needs σ) o (fun x=>Uv Ss p.2 (SA σ (k+j) x)) (fun x=>t.at (SA σ (k+j) x))) aas):=by
  intro r
  induction r with
  |nil=>intro es k _ j o h;simp at h
  |cons p r ih=>
    intro es k h j o ho
    cases es with
    |nil=>exact h.elim
    |cons e es=>
      cases e with
      |false=>
        obtain⟨⟨needs,t,aas,g1,g2,g3,g4,g5,g6,g7,g8⟩,V⟩:=h
        cases j with
        |zero=>
          simp at ho;subst ho;exact⟨false,rfl,needs,t,g1,g2,g3,g4,g5,g7,aas,g6,g8⟩
        |succ j=>
          obtain⟨e',g1,g2⟩:=ih es (k+1) V j o (by simpa using ho);refine⟨e',by simpa using g1,?_⟩;rw [show k+1+j=k+(j+1)from by omega]at g2;exact g2
      |true=>
        obtain⟨⟨needs,t,aas,g1,g2,g3,g4,g5,g6,g7,g8⟩,V⟩:=h
        cases j with
        |zero=>
          simp at ho;subst ho;exact⟨true,rfl,needs,t,g1,g2,g3,g4,g5,aas,g6,g7,g8⟩
        |succ j=>
          obtain⟨e',g1,g2⟩:=ih es (k+1) V j o (by simpa using ho);refine⟨e',by simpa using g1,?_⟩;rw [show k+1+j=k+(j+1)from by omega]at g2;exact g2
structure ZS(E:En)(G:oz)(l:List Oper)(ts:List TS)(Ss:SsT)(es:List Bool)(done:Array Bool)(a:Act)(w:World)(S:SH)(σ:Nat->OI):Prop where
 ext:ji E.B E.w0 E.S0 w S
 sat:kQ w S
 own:dR E.base E.B w S (Uv Ss (IF es done) σ)
 size:a.tmps.size=E.N.n
 defers:a.defers=E.N.ds
 dsz:done.size=l.length
 down: ∀j o,l[j]? =some o->done.getD j false=true-> ∀e∈o.after,Region.binds .any e=true->done.getD e.on false=true
 old: ∀k t,look G k=some t->(∀j o,l[j]? =some o->done.getD j false=true->o.dst≠some k)->t.p S (a.tmps.getD k undef)
 new: ∀j o d p,l[j]? =some o->done.getD j false=true->o.dst=some d->ts[j]? =some p->(p.at σ).p S (a.tmps.getD d undef)
 deps: ∀j p,done.getD j false=true->ts[j]? =some p-> ∀k∈p.1,done.getD k false=true
variable{S:SH}{d:Nat}{β:Type}{f:α->Option β}{hi:Int}{κ:Type}{m:List (κ×β)}{ty:TypeId}{u:Ty}{v:Value}{w:World}
section
variable{ts:List TS}
def ZS.need{σ:Nat->OI}(h:ZS E G L ts Ss es done a w S σ){o:Oper}(hi:L[i]? =some o)(hun:done.getD i true=false)(t_: ∀e∈o.after,Region.binds .any e=true->done.getD e.on false=true){needs:List NS}(D:zL G ts needs)(V:(needs.all fun n=>ro L o i (n.at fun _=>rs))=true):cH E.N S a (zI needs σ):=by
 have o_:i<done.size:=by rw [h.dsz];exact(oC.1 hi).1
 have hun' :done.getD i false=false:=by
  simp [o_]at hun ⊢;exact hun
 refine⟨h.size,h.defers,?_⟩;have key: ∀n∈needs,(n.ty σ).p S (a.tmps.getD n.slot undef):=by
  intro n hn;have hs:=o0.1 V n hn;have ho:=D.mem n hn;unfold ro NS.at at hs;unfold Za at ho
  cases hsrc:n.src with
  |some j=>
   rw [hsrc]at hs ho;simp only [jJ]at hs;obtain⟨hs1,hs2⟩:=hs
   cases hj:L[j]? with
   |none=>rw [hj]at hs1;cases hs1
   |some p=>
    rw [hj]at hs1
    cases hd:p.dst with
    |none=>simp only [hd]at hs1;cases hs1
    |some d=>
     simp only [hd]at hs1;have hd' :=rm hs1;subst hd';have e_:done.getD j false=true:=by
      unfold Fa at hs2;obtain⟨e,he0,K⟩:=zO.1 hs2;have he:e∈o.after:=by simpa using he0
      simp only [jJ]at K;have:=t_ e he K.2
      rwa [rm K.1]at this
     have hm:=ho σ
     cases Q:ts[j]? with
     |none=>rw [Q]at hm;simp at hm
     |some f=>
      rw [Q]at hm;have e:f.at σ=n.ty σ:=by simpa using hm
      rw [<-e];exact h.new j p n.slot f hj e_ hd Q
  |none=>
   rw [hsrc]at hs ho;refine h.old _ _ (ho σ) fun j p hj e_ hd=>?_;have:=o0.1 hs p (ud hj);simp only [hd,Nat.beq_refl,s6,yG]at this;unfold Fa at this;obtain⟨e,he0,K⟩:=zO.1 this;have he:e∈p.after:=by simpa using he0
   simp only [jJ]at K;have Z:=h.down j p hj e_ e he K.2;rw [rm K.1]at Z;rw [Z]at hun';cases hun'
 clear D V;intro k t hk;unfold zI at hk
 induction needs with
 |nil=>simp [lO,look]at hk
 |cons n needs ih=>
  simp only [vi]at hk;unfold lO look at hk;by_cases K:Nat.beq n.slot k=true
  ·have hb' :Nat.beq (n.at σ).slot k=true:=K;rw [hb']at hk;have:=rm K;subst this;have h9:some (n.at σ).ty=some t:=by simpa using hk
   have e:n.ty σ=t:=qr h9;rw [<-e];exact key n (pz ..)
  ·rw [B6]at K;have hb' :Nat.beq (n.at σ).slot k=false:=K;rw [hb']at hk;exact ih (fun m hm=>key m (pA _ hm)) hk
def ZS.step{w' :World}{S' :SH}{σ σ' :Nat->OI}(h:ZS E G L ts Ss es done a w S σ){o:Oper}{p0:TS}{C:Nat->Prop}(hi:L[i]? =some o)(hdN: ∀d,o.dst=some d->d<E.N.n)(hs2: ∀d,o.dst=some d-> ∀j p,L[j]? =some p->done.getD j false=true->p.dst=some d->i=j)(t_: ∀e∈o.after,Region.binds .any e=true->done.getD e.on false=true)(Y:ts[i]? =some p0)(hun:done.getD i true=false)(hdep: ∀k∈p0.1,k=i\/done.getD k false=true)(x_:ji C w S w' S')(hC: ∀b,C b->E.base<=b\/E.B b)(C_:kQ w' S')(hown:dR E.base E.B w' S' (Uv Ss (IF es (done.setIfInBounds i true)) σ'))(hσ: ∀k,k≠i->σ' k=σ k)(hv:(p0.at σ').p S' v):
  ZS E G L ts Ss es (done.setIfInBounds i true) (a.put o.dst v) w' S' σ' :=by
 have o_:i<done.size:=by rw [h.dsz];exact(oC.1 hi).1
 have I_: ∀j,(done.setIfInBounds i true).getD j false=true->j=i\/done.getD j false=true:=fun j hj=>by
  by_cases hij:i=j
  ·exact .inl hij.symm
  ·rw [zC false hij]at hj;exact .inr hj
 have hseti:(done.setIfInBounds i true).getD i false=true:=by simp [o_]
 have hun' :done.getD i false=false:=by simp [o_]at hun ⊢;exact hun
 have hput: ∀k,(∀d,o.dst=some d->d≠k)->(a.put o.dst v).tmps.getD k undef=a.tmps.getD k undef:=fun k hk=>by
  cases hd:o.dst with
  |none=>rfl
  |some d=>
   have hda:d<a.tmps.size:=by rw [h.size];exact hdN d hd
   rw [xj hda,aZ (hk d hd)]
 refine⟨h.ext.step x_ hC,C_,hown,?_,?_,by simp [h.dsz],fun j p hj e_ e he K=>?_,fun k u hk G_=>?_,fun j p d' u hj e_ hd' hu=>?_,fun j u hj hu k hk=>?_⟩
 ·cases o.dst with
  |none=>exact h.size
  |some d=>simp [Act.put,h.size]
 ·cases o.dst with
  |none=>exact h.defers
  |some d=>exact h.defers
 ·rcases I_ j e_ with rfl|hj'
  ·rw [hi]at hj;have:o=p:=by simpa using hj
   subst this;exact Bp (t_ e he K)
  ·exact Bp (h.down j p hj hj' e he K)
 ·rw [hput k fun d hd e=>G_ i o hi hseti (by rw [hd,e])];exact u.mono x_.keep (h.old k u hk fun j p hj e_=>G_ j p hj (Bp e_))
 ·by_cases hij:j=i
  ·subst hij;rw [hi]at hj;have:o=p:=by simpa using hj
   subst this;have hda:d' <a.tmps.size:=by rw [h.size];exact hdN d' hd'
   rw [hd',xj hda,bq rfl];rw [Y]at hu;have:p0=u:=by simpa using hu
   subst this;exact hv
  ·have hj' :=(I_ j e_).resolve_left hij;rw [hput d' fun d hd e=>by subst e;exact hij (hs2 d hd j p hj hj' hd').symm];have e1:u.at σ' =u.at σ:=congrArg u.2 (E3 fun k hk=>hσ k fun e=>by
     subst e;rw [h.deps j u hj' hu k hk]at hun';cases hun')
   rw [e1];exact Ty.mono _ x_.keep (h.new j p d' u hj hj' hd' hu)
 ·rcases I_ j hj with rfl|hj'
  ·rw [Y]at hu;have:p0=u:=by simpa using hu
   subst this;rcases hdep k hk with rfl|h'
   ·exact hseti
   ·exact Bp h'
  ·exact Bp (h.deps j u hj' hu k hk)
end
variable{hf:Exit->Act->World->Prop}{q:Rp β}
def LX{l t:List Oper}{ts:List TS}(hsl:Ab E.N.n [] l=true)(hlen:ts.length=l.length)(hesl:es.length=l.length)(hd:DT E G (l++t) ts Ss es 0 l es)(Y:BM (l++t) l.length t.length=true)(hQ: ∀a w S σ,St E (Uv Ss (Ga es) σ) (ML l (WJ ts σ) G) a w S->wpListIn (fw E.r) 0 E.P (l++t).toArray hf t a w):
  ∀(fuel:Nat) (done:Array Bool) (a:Act) (w:World) (S:SH) (σ:Nat->OI),oE done=fuel->(∀j,l.length<=j->done.getD j false=false)->ZS E G (l++t) ts Ss es done a w S σ->wpAnyIn (fw E.r) 0 E.P .any (l++t).toArray hf fuel done a w:=by
 have hL1: ∀i o,i<l.length->(l++t)[i]? =some o->l[i]? =some o:=fun i o hi h=>by rwa [lT hi]at h
 have hL2: ∀i o,l[i]? =some o->(l++t)[i]? =some o:=fun i o h=>by rw [lT (oC.1 h).1];exact h
 have htail: ∀m o,l.length<=m->(l++t)[m]? =some o->zu (l++t) m=true/\fU m o=true:=fun m o hm ho=>by
  have hml:m<(l++t).length:=(oC.1 ho).1;rw [jY]at hml;unfold BM at Y;have:=o0.1 Y (m-l.length) (by simp;omega);rw [show l.length+(m-l.length)=m from by omega,ho]at this;simp only [jJ]at this;exact⟨this.1,this.2.1⟩
 have hget:=fun i o (hi:l[i]? =some o)=>DT.get l es 0 hd i o hi;have hedge: ∀i o,(l++t)[i]? =some o->fU i o=true:=fun i o hi=>by
  rcases mN i l.length with h|h
  ·obtain⟨_,_,_,_,_,_,_,h,_⟩:=hget i o (hL1 i o h hi);simpa using h
  ·exact(htail i o h hi).2
 obtain⟨hs1,hs2⟩:=Ff l [] hsl;have fin: ∀fuel done a w S σ,oE done=fuel->(∀j,l.length<=j->done.getD j false=false)->ZS E G (l++t) ts Ss es done a w S σ->(∀i,i<l.length->done.getD i false=true)->wpAnyIn (fw E.r) 0 E.P .any (l++t).toArray hf fuel done a w:=by
  intro fuel done a w S σ hu A_ h K_;have hdn:IF es done=Ga es:=by
   unfold IF Ga;refine List.filter_congr fun k hk=>?_;rw [K_ k (by rw [<-hesl];exact IP.1 hk),IM]
  have hown:=h.own;rw [hdn]at hown;refine B8 (n:=l.length) (fun m o hm ho=>(htail m o hm ho).1) hedge t l.length done fuel a w (eX _) (by simp) h.dsz (fun j hj=>⟨fun hjd=>?_,fun o_=>K_ j o_⟩) hu
   (hQ a w S σ ⟨h.ext,h.sat,hown,h.size,h.defers,fun j u hj=>?_⟩)
  ·rcases mN j l.length with h' |h'
   ·exact h'
   ·rw [A_ j h']at hjd;cases hjd
  ·rcases Jx l (WJ ts σ) j u (by unfold WJ;rw [BG];exact hlen) hj with⟨i,o,D,V,Z⟩|⟨D,V⟩
   ·unfold WJ at Z;rw [D9]at Z
    cases Q:ts[i]? with
    |none=>rw [Q]at Z;simp at Z
    |some f=>
     rw [Q]at Z;have e:f.at σ=u:=by simpa using Z
     rw [<-e];exact h.new i o j f (hL2 i o D) (K_ i (oC.1 D).1) V Q
   ·refine h.old j u D fun i o ho hdn=>?_;rcases mN i l.length with h' |h'
    ·exact V o (ud (hL1 i o h' ho))
    ·rw [A_ i h']at hdn;cases hdn
 have lower: ∀done a w S σ i,(∀j,l.length<=j->done.getD j false=false)->ZS E G (l++t) ts Ss es done a w S σ->i∈Region.ready .any (l++t).toArray done->l.length<=i-> ∀j,j<l.length->done.getD j false=true:=by
  intro done a w S σ i A_ h hi hge j hj;obtain⟨hun,p,hp,t_⟩:=wi.1 hi;have hp' :(l++t)[i]? =some p:=by simpa using hp
  have hcov:=(htail i p hge hp').1;unfold zu at hcov;have hre:=o0.1 hcov j (by simp;omega);exact jk h.down _ i j (fun q hq e he K=>by
   have:q=p:=by rw [hp']at hq;simpa using hq.symm
   subst this;exact t_ e he K) hre
 intro fuel
 induction fuel with
 |zero=>
  intro done a w S σ hu A_ h;exact fin 0 done a w S σ hu A_ h fun i hi=>xd hu (by rw [h.dsz,jY];omega)
 |succ fuel ih=>
  intro done a w S σ hu A_ h;by_cases K_: ∀i,i<l.length->done.getD i false=true
  ·exact fin _ done a w S σ hu A_ h K_
  have hready0: ∀m i,i<m->i<l.length->Region.ready .any (l++t).toArray done=[]->done.getD i false=true:=by
   intro m
   induction m with
   |zero=>intro i h;omega
   |succ m ihm=>
    intro i him hil hr;have his:i<done.size:=by rw [h.dsz,jY];omega
    by_cases hdn:done.getD i true=true
    ·rw [<-rb his];exact hdn
    ·exfalso;obtain⟨o,ho⟩: ∃o,(l++t)[i]? =some o:=⟨l[i],hL2 i _ (qV hil)⟩;have hmem:i∈Region.ready .any (l++t).toArray done:=by
      rw [wi];refine⟨by simpa using hdn,o,by simpa using ho,fun e he K=>?_⟩;have:=hedge i o ho;unfold fU at this;have:=o0.1 this e (by simpa using he);simp only [K,s6,yG,xS]at this;exact ihm e.on (by omega) (by omega) hr
     rw [hr]at hmem;cases hmem
  refine⟨fun hr=>absurd (fun i hi=>hready0 (i+1) i (by omega) hi hr) K_,fun i hi=>?_⟩;have hil:i<l.length:=by
   rcases mN i l.length with h' |h'
   ·exact h'
   ·exact absurd (lower done a w S σ i A_ h hi h') K_
  obtain⟨hun,o,ho,t_⟩:=wi.1 hi;have ho' :(l++t)[i]? =some o:=by simpa using ho
  have hol:=hL1 i o hil ho';obtain⟨e,he,needs,u,D,V,Z,_,h4,h5⟩:=hget i o hol;rw [oZ]at D Z h4;have hF:=h.need ho' hun t_ V Z;have his:i<done.size:=by rw [h.dsz,jY];omega
  have hun' :done.getD i false=false:=by rw [<-rb his];exact hun
  have hu' :oE (done.setIfInBounds i true)=fuel:=by have:=uf hun;omega
  have huq: ∀d,o.dst=some d-> ∀j p,(l++t)[j]? =some p->done.getD j false=true->p.dst=some d->i=j:=fun d hdd j p hj hjd hpd=>by
   rcases mN j l.length with h' |h'
   ·exact hs2 i j o p d hol (hL1 j p h' hj) hdd hpd
   ·rw [A_ j h']at hjd;cases hjd
  have hfree' : ∀j,l.length<=j->(done.setIfInBounds i true).getD j false=false:=fun j hj=>by
   rw [zC false (by omega)];exact A_ j hj
  have hbl:E.base<=w.heap.size:=h.ext.size;have hwaits: ∀q,(l++t)[i]? =some q-> ∀e∈q.after,Region.binds .any e=true->done.getD e.on false=true:=fun q hq e he K=>by
   have:q=o:=by rw [ho']at hq;simpa using hq.symm
   subst this;exact t_ e he K
  have hdpp: ∀k∈u.1,k=i\/done.getD k false=true:=fun k hk=>by
   have:=o0.1 h4 k hk;simp only [jJ,zR]at this;rcases this.2 with K|K
   ·exact .inl (rm K)
   ·exact .inr (jk h.down _ i k hwaits K)
  have hdNN: ∀d,o.dst=some d->d<E.N.n:=fun d hd=>(hs1 o (ud hol) d hd).1;unfold wpOpIn;rw [ho];show if _ then _ else _;have hpos:noE (l++t) es i (IF es done)=false:=by
   rw [BJ];intro G_;unfold noE at G_;rw [zR]at G_;rcases G_ with hc|hc
   ·have:=(Dl.1 (LS.1 hc)).2;rw [this]at hun';cases hun'
   ·obtain⟨k,hk1,hk2⟩:=zO.1 hc;have hke:es[k]? =some true:=by
     unfold Ga at hk1;rw [IQ,IP]at hk1;have h7:=hk1.2;rw [qV hk1.1]at h7 ⊢;simpa using h7
    by_cases hin:(IF es done).contains k=true
    ·rw [bq hin,zR]at hk2;have hkd:=(Dl.1 (LS.1 hin)).2;rcases hk2 with K|K
     ·have:=jk h.down _ k i (fun q hq e he K=>h.down k q hq hkd e he K) K;rw [this]at hun';cases hun'
     ·obtain⟨j,hj1,hj2⟩:=zO.1 K;rw [jJ,FS]at hj2;have hje:es[j]? =some true:=by
       unfold Ga at hj1;rw [IQ,IP]at hj1;have h7:=hj1.2;rw [qV hj1.1]at h7 ⊢;simpa using h7
      have hjd:=jk h.down _ k j (fun q hq e he K=>h.down k q hq hkd e he K) hj2.2;have:=LS.2 (Dl.2 ⟨hje,hjd⟩);rw [hj2.1]at this;cases this
    ·rw [aZ hin]at hk2;have hkd:=jk h.down _ i k hwaits hk2;exact hin (LS.2 (Dl.2 ⟨hke,hkd⟩))
  have hwin: ∀aas:List (List Nat),Sx (l++t) es i aas=true->IF es done∈aas:=by
   intro aas hw;unfold Sx at hw;have:=o0.1 hw _ (Wj es done);rw [hpos,yG]at this;obtain⟨b,hb1,hb2⟩:=zO.1 this;rw [<-Qm hb2];exact hb1
  cases e with
  |false=>
   simp only at h5;obtain⟨hdS,aas,hw,h5⟩:=h5;rw [oZ]at hw;obtain⟨d,hdd⟩:=Option.isSome_iff_exists.1 hdS;have h6:=h5.mem _ (hwin aas hw) σ a w S h.sat h.own hF;have hdq:=TU (done:=done) he;by_cases hw:Region.wanted o (yielded (l++t).toArray a.tmps)=true
   ·rw [bq hw]at h6 ⊢;refine n8 (fun a' w' ⟨v,S',ha,I,hs,hv⟩=>?_) h6;subst ha;exact ih _ _ _ S' _ hu' hfree' (h.step ho' hdNN huq t_ D hun hdpp I (fun _ K=>K.elim) hs (by rw [hdq];exact h.own.ext0 I) (fun _ _=>rfl) hv)
   ·rw [aZ hw]at h6 ⊢;exact⟨fun _ _=>trivial,ih _ _ _ S _ hu' hfree' (h.step ho' hdNN huq t_ D hun hdpp (ji.refl sq _ _) (fun _ K=>K.elim) h.sat (by rw [hdq];exact h.own) (fun _ _=>rfl) h6)⟩
  |true=>
   simp only [oZ]at h5;obtain⟨aas,hw,hins,h5⟩:=h5;obtain⟨p,hp1,hp2⟩:=Bo.1 (hwin _ hw);have hp3:=Qm (o0.1 hins p hp1);have h6:=h5.mem p hp1 σ a w S h.sat (by rw [hp2];exact h.own) hF hbl;have hdq:IF es (done.setIfInBounds i true)=p.2:=by rw [YN he his,<-hp2,hp3]
   by_cases hw:Region.wanted o (yielded (l++t).toArray a.tmps)=true
   ·rw [bq hw]at h6 ⊢;refine n8 (fun a' w' ⟨v,S',x,ha,I,hs,hown,hv⟩=>?_) h6;subst ha;exact ih _ _ _ S' _ hu' hfree' (h.step ho' hdNN huq t_ D hun hdpp I (fun b ⟨f,Q,K⟩=>(dR.mem h.own f (by rw [<-hp2];exact Q)).2 b K) hs (by rw [hdq];exact hown) (fun k hk=>Kg σ x hk) hv)
   ·rw [aZ hw]at h6 ⊢;obtain⟨x,hown,hv⟩:=h6;exact⟨fun _ _=>trivial,ih _ _ _ S _ hu' hfree' (h.step ho' hdNN huq t_ D hun hdpp (ji.refl sq _ _) (fun _ K=>K.elim) h.sat (by rw [hdq];exact hown) (fun k hk=>Kg σ x hk) hv)⟩
variable{O:List OE}{st:TypeId}
def Ie{id:Nat}(m:Nat)(ts:List TS)(es:List Bool)(Ss:SsT)(hO: ∀σ,Uv Ss [] σ=O)(hm:E.P.follows .mixedOrders=true)(hsl:Ab E.N.n [] (L.take m)=true)(hlen:ts.length=(L.take m).length)(hesl:es.length=(L.take m).length)(Y:BM L (L.take m).length (L.drop m).length=true)(hd:DT E G L ts Ss es 0 (L.take m) es)(k: ∀σ:Nat->OI,RG E L.toArray hf (L.drop m) (Uv Ss (Ga es) σ) (ML (L.take m) (WJ ts σ) G)):CG E hf (.region id L.toArray true) O G:=fun a w S st=>by
 have hL:L=L.take m++L.drop m:=(vn m L).symm;generalize L.take m=l at hL hsl hlen hesl Y hd k;generalize L.drop m=t at hL Y k;subst hL;refine wpIn_region_any hm ?_;obtain⟨he,hs⟩:=AU (w:=w) st.sat;have hdn0:IF es (Array.replicate (l++t).toArray.size false)=[]:=by
  unfold IF;refine List.filter_eq_nil_iff.2 fun k hk=>?_;simp [B7];intro _;split<;>simp
 refine LX hsl hlen hesl hd Y (fun a w S σ st=>k σ a w S st) _ _ _ _ S (fun _=>rs) ?_ (fun j _=>?_)
  ⟨st.ext.step0 he,hs,by rw [hdn0,hO];exact st.own.ext0 he,st.facts.size,st.facts.defers,by simp,fun j o hj e_=>?_,fun k t hk _=>st.facts.h_ k t hk,fun j o d t hj e_=>?_,fun j p e_=>?_⟩
 ·unfold oE;rw [QT,QP];simp
 ·simp [B7];split<;>rfl
 ·simp [B7]at e_;split at e_<;>simp at e_
 ·simp [B7]at e_;split at e_<;>simp at e_
 ·simp [B7]at e_;split at e_<;>simp at e_
variable{B:Nat->Prop}{base:Nat}{y:Code}
def dR.perm{O' :List OE}(h:O.Perm O'):dR base B w S O->dR base B w S O' :=by
 induction h with
 |nil=>exact id
 |cons x p ih=>
  rintro⟨D,V,Z⟩;exact⟨D,fun f Q=>V f (p.mem_iff.2 Q),ih Z⟩
 |swap x y l=>
  rintro⟨D,V,Z,h4,h5⟩;refine⟨Z,fun f Q k hk hfk=>?_,D,fun f Q=>V f (pA _ Q),h5⟩;rcases iI.1 Q with rfl|Q
  ·exact V x (pz ..) k hfk hk
  ·exact h4 f Q k hk hfk
 |trans _ _ ih1 ih2=>exact fun k=>ih2 (ih1 k)
def xl(O:List OE):List Nat->List OE
 |[]=>[]
 |i::l=>match O[i]? with
  |some e=>e::xl O l
  |none=>xl O l
def De(O:List OE): ∀a b:List Nat,xl O (a++b)=xl O a++xl O b
 |[],_=>rfl
 |i::a,b=>by
  simp only [FR,xl];split<;>simp [De O a b]
def Pu{a b:List Nat}(h:a.Perm b):(xl O a).Perm (xl O b):=by
 induction h with
 |nil=>exact .nil
 |cons x p ih=>
  simp only [xl];split
  ·exact .cons _ ih
  ·exact ih
 |swap x y l=>
  simp only [xl];cases I:O[x]? <;>cases hy:O[y]? <;>simp<;>exact .swap ..
 |trans _ _ ih1 ih2=>exact ih1.trans ih2
def MI(O:List OE):xl O (List.range O.length)=O:=by
 have key: ∀n,n<=O.length->xl O (List.range n)=O.take n:=by
  intro n
  induction n with
  |zero=>intro _;rfl
  |succ n ih=>
   intro h;rw [List.range_succ,De,ih (by omega)];simp only [xl];rw [qV (by omega),QV (by omega)]
 rw [key _ (eX _),BH]
def dR.pick(l:List Nat)(hl:l.isPerm (List.range O.length)=true)(h:dR base B w S O):dR base B w S (xl O l):=
 h.perm (by
  have:=Pu (O:=O) (List.isPerm_iff.1 hl);rw [MI]at this;exact this.symm)
def inR(i:Int)(n:Nat):Option Unit:=if 0<=i/\i<(n:Int)then some ()else none
variable{U:TypeId}{after:Array Edge}{cap:Nat}{dst:Option Tmp}{g:Option (Nat×Bool)}{mm:Bool}{pos:String}{xs:List α}
section
def Ba{o:Nat}{y:α}{j:Int}{p:Operand}(hm:nU mm r U l cap xs∈O)(hy:dm xs j=some y)(hp:aG E.N G p (tV (qv l o))):
  ck E O G ⟨dst,.nilCheck p,ty,pos,after,g⟩ (tV (qv l o)):=
 .of_pure fun a w S _ ho hF=>by
  have D:a.eval p=qv l o:=hp S a hF;obtain⟨_,hy'⟩:=ou hy;obtain⟨b,cur,rfl,_⟩:=wv (ho.mem _ hm).1 hy';exact⟨qv (some b) o,by simp [execOp,D,qv,an],rfl⟩
end
open Go.ChangeShapes Go.WideShapes Go.ChangeAt Go.RowKit
variable{hg:Type}{P:Program}{T:TypeId}{W:World}{args:α->List Ty}{c:Nat}{cells cs:List Value}{enc:TypeId×Value->hg}{gs:Nat}{rest:List Oper}{ys:List α}{z:List Value}
section
def Nb(W:World):SH:=fun b=>W.heap[b]?
def aaz(W:World)(H: ∀p∈glob,∃c T fr,W.heap[p.1]? =some (.cells c T fr)/\c.toList.take p.2.length=p.2)(Y: ∀w' :World,(∀(b:Nat) (o:Obj),W.heap[b]? =some o-> ∃o',w'.heap[b]? =some o' /\Ig o o')->SI w'):kQ W (Nb W):=⟨fun _ o h=>⟨o,h,wy o⟩,H,Y⟩
def Bl(enc:TypeId×Value->hg)(P:Program)(W:World){α:Type}(t:TypeId)(r:Rp α):Prop:=
 P.cellsOf t=r.sz/\ ∀fuel cs x,DataW.trod enc P W 0 (fun _=>true) true fuel t cs=some x-> ∃y,r.rc (Nb W) cs y
def UG(h:P.underlying t=some .bool)(hc:P.cellsOf t=1):Bl enc P W t rB:=⟨hc,fun fuel cs x I=>by
 cases fuel with
 |zero=>simp [DataW.trod]at I
 |succ n=>
  unfold DataW.trod at I;rw [h]at I;split at I;all_goals try (injections;done)
  ·exact⟨_,rfl⟩⟩
def yh{α β:Type}{f:α->Option β}: ∀{l:List α} {r:List β},l.mapM f=some r->r.length=l.length/\ ∀(i:Nat) (x:α),l[i]? =some x-> ∃y,r[i]? =some y/\f x=some y
 |[],r,h=>by
  simp at h;subst h;exact⟨rfl,fun i x I=>by simp at I⟩
 |a::l,r,h=>by
  rw [List.mapM_cons]at h
  cases Q:f a with
  |none=>rw [Q]at h;simp at h
  |some b=>
   rw [Q]at h
   cases hm:l.mapM f with
   |none=>rw [hm]at h;simp at h
   |some r' =>
    rw [hm]at h;simp at h;subst h;obtain⟨D,V⟩:=yh hm;refine⟨by simp [D],fun i x I=>?_⟩
    cases i with
    |zero=>simp at I;subst I;exact⟨b,rfl,Q⟩
    |succ i=>exact V i x (by simpa using I)
def EM{a:Addr}(h:W.cell? a=some v):a.spot=none/\ ∃c E fr,W.heap[a.block]? =some (.cells c E fr)/\c[a.off]? =some v:=by
 unfold World.cell? at h
 cases ho:W.heap[a.block]? with
 |none=>rw [ho]at h;cases h
 |some o=>
  rw [ho]at h
  cases o with
  |cells c E fr=>
   simp only at h;by_cases hs:a.spot.isSome=true
   ·rw [bq hs]at h;cases h
   ·rw [aZ hs]at h;exact⟨by cases hq:a.spot with
     |none=>rfl
     |some s=>rw [hq]at hs;simp at hs,c,E,fr,rfl,h⟩
  |_=>simp at h
def JV(a:Addr):a.add 0=a:=by unfold Addr.add;rfl
def Qv{off:Nat}(h:W.cells? 0 ⟨b,off,none⟩ n=some cs)(hn:0<n): ∃c E fr,W.heap[b]? =some (.cells c E fr)/\cs=(c.toList.drop off).take n:=by
 unfold World.cells? at h;rw [bq (kY _)]at h;obtain⟨D,V⟩:=yh h;obtain⟨v,_,hv⟩:=V 0 0 (by simp [hn]);obtain⟨_,c,E,fr,Z,h4⟩:=EM hv;refine⟨c,E,fr,by simpa [Addr.add] using Z,?_⟩;apply IT;intro i;have hl:cs.length=n:=by simpa using D
 by_cases hi:i<n
 ·obtain⟨v,h5,h6⟩:=V i i (by simp [hi]);obtain⟨_,c',E',fr',h7,h8⟩:=EM h6;rw [kL]at h7 h8;have h7' :W.heap[b]? =some (.cells c' E' fr'):=h7;have h3' :W.heap[b]? =some (.cells c E fr):=by simpa [Addr.add] using Z
  rw [h3']at h7';injection h7' with h7';injection h7' with e1;subst e1;rw [h5,zT hi,xT];simpa using h8.symm
 ·rw [E5 (by omega),E5 (by simp;omega)]
def SF{q:Rp α}{len:Nat}{a:Addr}{x:DataW hg×List MemPlace}(h0' :0<q.sz)(hq:Bl enc P W e q)(I:(let elemAt (i:Nat):Option (DataW hg×List MemPlace):=(W.cells? 0 (a.add (i*P.cellsOf e)) (P.cellsOf e)).bind (DataW.trod enc P W 0 (fun _=>true) true n e)
   if 0<=a.block/\len<=cap/\cap<=maxLen then
    ((List.range len).mapM elemAt).bind fun elems=>
     (if(fun _=>true) a.block then(List.range (cap-len)).mapM fun j=>elemAt (len+j)else some []).map fun rest=>
      (DataW.slice (elems.map (·.1)) (rest.map (·.1)),MemPlace.row a ((elems.length+rest.length)*P.cellsOf e)++(elems++rest).flatMap (·.2))
   else none)=some x): ∃y,(eW q).rc (Nb W) [.slice (some a) len cap] y:=by
 simp only at I;split at I
 ·rename_i hcond;obtain⟨_,hle,hmax⟩:=hcond
  cases hm:(List.range len).mapM (fun i=>(W.cells? 0 (a.add (i*P.cellsOf e)) (P.cellsOf e)).bind (DataW.trod enc P W 0 (fun _=>true) true n e))with
  |none=>rw [hm]at I;simp at I
  |some elems=>
   obtain⟨hm1,hm2⟩:=yh hm;rw [hq.1]at hm2;by_cases hl0:len=0
   ·subst hl0;exact⟨[],some a,cap,rfl,kY _,hmax,.inl rfl⟩
   have hsp0:a.spot=none:=by
    obtain⟨z,_,hz⟩:=hm2 0 0 (by rw [List.getElem?_range (by omega)]);rw [Nat.zero_mul,JV]at hz
    cases hcs:W.cells? 0 a q.sz with
    |none=>rw [hcs]at hz;simp at hz
    |some cs1=>
     unfold World.cells? at hcs;rw [bq (kY _)]at hcs;obtain⟨_,g2⟩:=yh hcs;obtain⟨v,_,hv⟩:=g2 0 0 (by simp [h0']);rw [JV]at hv;exact(EM hv).1
   have hcell: ∀i,i<len-> ∃c E fr,a.spot=none/\W.heap[a.block]? =some (.cells c E fr)/\ ∃y,q.rc (Nb W) ((c.toList.drop (a.off+i*q.sz)).take q.sz) y:=by
    intro i hi;obtain⟨z,_,hz⟩:=hm2 i i (by simp [hi])
    cases hcs:W.cells? 0 (a.add (i*q.sz)) q.sz with
    |none=>rw [hcs]at hz;simp at hz
    |some cs1=>
     rw [hcs]at hz;have hsp:a.spot=none:=hsp0;obtain⟨ab,ao,az⟩:=a;simp only at hsp;subst hsp;rw [kL]at hcs;obtain⟨c,E,fr,g1,g2⟩:=Qv hcs h0';obtain⟨y,hy⟩:=hq.2 n cs1 z hz;exact⟨c,E,fr,rfl,g1,y,by rw [<-g2];exact hy⟩
   obtain⟨c,E,fr,hsp,K,_⟩:=hcell 0 (by omega);have key: ∀m,m<=len-> ∃ys:List α,ys.length=m/\vq q (Nb W) ((c.toList.drop a.off).take (m*q.sz)) ys:=by
    intro m
    induction m with
    |zero=>intro _;exact⟨[],rfl,by simp [vq]⟩
    |succ m ih=>
     intro hm';obtain⟨ys,hy1,hy2⟩:=ih (by omega);obtain⟨c',E',fr',_,hb',y,hy⟩:=hcell m (by omega);rw [K]at hb';injection hb' with hb';injection hb' with e1;subst e1;refine⟨ys++[y],by simp [hy1],?_⟩;have hsplit:(c.toList.drop a.off).take ((m+1)*q.sz)=(c.toList.drop a.off).take (m*q.sz)++(c.toList.drop (a.off+m*q.sz)).take q.sz:=by
      rw [uT,Nat.one_mul,List.take_add,vE]
     rw [hsplit];exact wu hy2 (Pr.2 hy)
   obtain⟨ys,hy1,hy2⟩:=key len (eX _);obtain⟨ab,ao,az⟩:=a;simp only at hsp;subst hsp;exact⟨ys,some ⟨ab,ao,none⟩,cap,by rw [hy1],by omega,hmax,.inr ⟨ab,ao,c,E,fr,rfl,K,by rw [hy1];exact hy2⟩⟩
 ·cases I
def sG{q:Rp α}(h:P.underlying t=some (.slice e))(hc:P.cellsOf t=1)(h0:Nat.blt 0 q.sz=true)(hq:Bl enc P W e q):Bl enc P W t (eW q):=⟨hc,fun fuel cs x I=>by
 have h0' :0<q.sz:=by simpa [xS] using h0
 cases fuel with
 |zero=>simp [DataW.trod]at I
 |succ n=>
  unfold DataW.trod at I;rw [h]at I;split at I;all_goals try (injections;done)
  ·exact⟨[],none,0,rfl,eX _,kY _,.inl rfl⟩
  ·rename_i e' a len cap heq;injection heq with e1;injection e1 with e1;subst e1;exact SF h0' hq I⟩
def Ze(enc:TypeId×Value->hg)(P:Program)(W:World){α:Type}(off:Nat)(l:List (TypeId×Nat))(r:Rp α):Prop:=
 ∀(fuel:Nat) (cs:List Value),cs.length=off+r.sz->(∀f∈l,∃x,DataW.trod enc P W 0 (fun _=>true) true fuel f.1 ((cs.drop f.2).take (P.cellsOf f.1))=some x)-> ∃y,r.rc (Nb W) (cs.drop off) y
def rJ{t off:Nat}(h:Bl enc P W t r):Ze enc P W off [(t,off)] r:=fun fuel cs hl I=>by
 obtain⟨x,I⟩:=I _ (GJ _);simp only at I;rw [h.1,s8 (by simp;omega)]at I;exact h.2 _ _ _ I
def gB{p:Rp α}{t off off' :Nat}{l:List (TypeId×Nat)}(h:Bl enc P W t p)(ho:off' =off+p.sz)(hr:Ze enc P W off' l q):Ze enc P W off ((t,off)::l) (cu p q):=fun fuel cs hl I=>by
 subst ho;obtain⟨x,m_⟩:=I _ (pz ..);simp only at m_;rw [h.1]at m_;obtain⟨y,hy⟩:=h.2 _ _ _ m_;obtain⟨z,hz⟩:=hr fuel cs (by rw [hl];show off+(p.sz+q.sz)=_;omega) fun f Q=>I f (pA _ Q);exact⟨(y,z),_,_,by rw [<-vE];exact(vn _ _).symm,hy,hz⟩
def oF{l:List (TypeId×Nat)}{p:Rp α}{f:β->α}(Y:(P.underlying t).map (fun d=>match d with| .struct l=>(true,l.toList.map fun f=>(f.type,f.offset))|_=>(false,[]))=some (true,l))(hc:P.cellsOf t=p.sz)(Q: ∀y,∃x,f x=y)(hl:Ze enc P W 0 l p):Bl enc P W t (nS p f):=⟨hc,fun fuel cs x I=>by
 obtain⟨fs,D,V⟩: ∃fs,P.underlying t=some (.struct fs)/\fs.toList.map (fun f=>(f.type,f.offset))=l:=by
  cases hu:P.underlying t with
  |none=>rw [hu]at Y;cases Y
  |some d=>
   rw [hu]at Y;cases d<;>simp at Y;exact⟨_,rfl,Y⟩
 cases fuel with
 |zero=>simp [DataW.trod]at I
 |succ n=>
  unfold DataW.trod at I;rw [D]at I;change (if cs.length=P.cellsOf t then(fs.toList.mapM fun f=>DataW.trod enc P W 0 (fun _=>true) true n f.type ((cs.drop f.offset).take (P.cellsOf f.type))).map (fun xs=>(DataW.agg (xs.map (·.1)),xs.flatMap (·.2)))else none)=some x at I;split at I
  ·rename_i hlen
   cases hm:fs.toList.mapM (fun f=>DataW.trod enc P W 0 (fun _=>true) true n f.type ((cs.drop f.offset).take (P.cellsOf f.type)))with
   |none=>rw [hm]at I;simp at I
   |some r=>
    obtain⟨_,hm2⟩:=yh hm;obtain⟨y,hy⟩:=hl n cs (by rw [hlen,hc];omega) (fun g H=>by
     rw [<-V,Bo]at H;obtain⟨f0,hf0,rfl⟩:=H;obtain⟨i,hi⟩:=List.getElem?_of_mem hf0;obtain⟨z,_,hz⟩:=hm2 i f0 hi;exact⟨z,hz⟩)
    obtain⟨x',hx'⟩:=Q y;refine⟨x',?_⟩;show p.rc _ cs (f x');rw [hx'];simpa using hy
  ·cases I⟩
def Lw{W' :World}{S' :SH}(h:ji sq W S W' S'):Below W.heap.size W W' :=⟨h.os,h.tape,h.output,h.size,fun k hk=>h.heap k hk (fun h=>h)⟩
def BL(hl:laidOutB P=true){W W' :World}(K:Below W.heap.size W W'){sp:Nat->Bool}: ∀{ts:List TypeId} {vs:List Value} {ds:List (DataW hg)} {ps:List MemPlace},(∀t∈ts,P.readableRec t=true/\t<P.types.size)->
  DataW.TrodAll enc P W 0 (fun _=>true) true ts vs ds ps->(∀p∈ps,p.block<W.heap.size)->(∀p∈ps,sp p.block=true)->DataW.TrodAll enc P W' 0 sp true ts vs ds ps
 |[],[],[],_,_,h,_,_=>h
 |t::ts,v::vs,d::ds,_,hr,⟨p,q,D,V,e⟩,o_,hsp=>by
  subst e;have Y:=hr t (pz ..);exact⟨p,q,WideElems.Trod_stays hl Y.1 Y.2 D (fun x I=>K.same (o_ x (uR _ I))) (fun x I=>hsp x (uR _ I)),
   BL hl K (fun t Y=>hr t (pA _ Y)) V (fun x I=>o_ x (CR _ I)) (fun x I=>hsp x (CR _ I)),rfl⟩
def Vn{f:Func}{s:ChangeSpec}{apart fresh handsOn again:Bool}{W' :World}{args:Array Value}{ds gs:List (DataW hg)}{before:List MemPlace}{tb:TypeId}(hl:laidOutB P=true)(hr: ∀t∈f.params.toList,P.readableRec t=true/\t<P.types.size)(hvs:s.vars=[])(hres:f.resultTypes= #[tb])(htb:P.underlying tb=some .bool)(hW:DataW.Whole enc P f.params.toList s.vars apart W args.toList ds gs before)(hs:s.fn hg (ds++gs)={results:=[.lit (.bool true)],args:=ds})(K:Below W.heap.size W W'):
  s.post enc P f apart fresh handsOn again W args (.bool true) W' :=by
 have hW0:=hW;have o_:=hW.lt;obtain⟨pa,pv,hA,hV,rfl,hz,hn⟩:=hW;rw [hvs]at hV;have hpv:pv=[]:=by
  cases gs with
  |nil=>exact hV
  |cons g gs=>exact hV.elim
 subst hpv;have hlt' : ∀p∈pa,p.block<W.heap.size:=fun p hp=>o_ p (by simpa using hp);have hargs: ∀sp:Nat->Bool,(∀p∈pa,sp p.block=true)->DataW.TrodAll enc P W' 0 sp true f.params.toList args.toList ds pa:=fun sp hsp=>BL hl K hr hA hlt' hsp;have hresT: ∀(b:Nat) (sp:Nat->Bool) (hd:Bool),DataW.TrodAll enc P W' b sp hd f.resultTypes.toList ((Value.bool true).resultList f.resultTypes.size) [.lit (.bool true)] []:=fun b sp hd=>by
  rw [hres];exact⟨[],[],⟨1,by simp [DataW.trod,htb,Value.cells]⟩,rfl,rfl⟩
 have hvT: ∀sp:Nat->Bool,DataW.TrodVars enc P W' sp s.vars (s.fn hg (ds++gs)).vars []:=fun sp=>by
  rw [hvs,hs];rfl
 have hargs' : ∀sp:Nat->Bool,(∀p∈pa,sp p.block=true)->DataW.TrodAll enc P W' 0 sp true f.params.toList args.toList (s.fn hg (ds++gs)).args pa:=fun sp hsp=>by rw [hs];exact hargs sp hsp
 have hres' : ∀(b:Nat) (sp:Nat->Bool) (hd:Bool),DataW.TrodAll enc P W' b sp hd f.resultTypes.toList ((Value.bool true).resultList f.resultTypes.size) (s.fn hg (ds++gs)).results []:=fun b sp hd=>by rw [hs];exact hresT b sp hd
 have hold: ∀p∈pa,(fun b=>decide (b<W.heap.size)) p.block=true:=fun p hp=>by simpa using hlt' p hp
 refine⟨ds,gs,pa++[],[],pa,[],hW0,hres' _ _ _,hargs' _ hold,hvT _,World.keptBut_mono (fun p hp=>⟨hp,?_⟩) (K.frame _),fun _=>?_⟩
 ·right;simpa using hp
 ·refine⟨?_,_,_,([]++pa)++[],⟨[]++pa,[],trodAll_append (hargs' _ (fun _ _=>rfl)) (hres' _ _ _),hvT _,rfl,?_,?_⟩,?_⟩
  ·intro j t r D V;rw [hres]at D V
   cases j with
   |zero=>
    simp [Value.resultList]at D V;subst D V;simp [Value.okWide,htb,Cell.okWide,Cell.ok]
   |succ j=>simp at D
  ·intro b off hp;have hp' :MemPlace.cell b off∈pa:=by simpa using hp
   have:=hlt' _ hp';rw [K.frozen (p:=⟨b,off,none⟩) this];exact hz b off (by simpa using hp')
  ·intro ha;have:=hn ha;simpa using this
  ·intro p hp _;simpa using hp
end
variable{agg:Bool}{ok:α->Prop}
section
def Bz{α:Type}(r:Rp α)(ok:α->Prop):Rp α where
 sz:=r.sz
 agg:=r.agg
 rc:=fun S cs x=>r.rc S cs x/\ok x
 mono:=fun h k=>⟨r.mono h k.1,k.2⟩
 len:=fun k=>r.len k.1
 one:=fun k=>r.one k.1
 sc:=r.sc
def yl(k:IntKind)(n:Int):Prop:=k.min<=n/\n<=k.max
def Zs(s:ru):Prop:=s.length<=maxLen
def inL{α:Type}(ok:α->Prop)(xs:List α):Prop:=xs.length<=maxLen/\ ∀x∈xs,ok x
def inT{α:Type}(_:α):Prop:=True
def GW(h:P.underlying t=some (.int k))(hc:P.cellsOf t=1):Bl enc P W t (Bz (rI k) (yl k)):=⟨hc,fun fuel cs x I=>by
 cases fuel with
 |zero=>simp [DataW.trod]at I
 |succ n=>
  unfold DataW.trod at I;rw [h]at I;split at I;all_goals try (injections;done)
  ·rename_i k1 k2 m heq;injection heq with e;injection e with e;subst e;split at I
   ·rename_i V;obtain⟨rfl,Z⟩:=V;simp only [Lit.wf,jJ,vk]at Z;exact⟨m,rfl,Z⟩
   ·cases I⟩
def UF(h:P.underlying t=some .string)(hc:P.cellsOf t=1):Bl enc P W t (Bz rS Zs):=⟨hc,fun fuel cs x I=>by
 cases fuel with
 |zero=>simp [DataW.trod]at I
 |succ n=>
  unfold DataW.trod at I;rw [h]at I;split at I;all_goals try (injections;done)
  ·rename_i s heq;split at I
   ·rename_i V;exact⟨s.data.toList,rfl,(show s.data.toList.length<=maxLen from(show s.size=s.data.toList.length from rfl)▸V)⟩
   ·cases I⟩
def SG(h:P.underlying t=some .bool)(hc:P.cellsOf t=1):Bl enc P W t (Bz rB inT):=
 ⟨hc,fun fuel cs x I=>by obtain⟨y,hy⟩:=(UG (enc:=enc) (W:=W) h hc).2 fuel cs x I;exact⟨y,hy,trivial⟩⟩
def JW{α:Type}(r' r:Rp α)(ok:α->Prop):Prop:=r'.sz=r.sz/\r'.agg=r.agg/\ ∀S cs x,r'.rc S cs x->r.rc S cs x/\ok x
def ny:JW (Bz r ok) r ok:=⟨rfl,rfl,fun _ _ _ h=>h⟩
def Re{α:Type}{r' r:Rp α}{ok:α->Prop}(h:JW r' r ok){S:SH}: ∀{xs:List α} {cs:List Value},vq r' S cs xs->vq r S cs xs/\ ∀x∈xs,ok x
 |[],_,k=>⟨k,fun x I=>by cases I⟩
 |x::xs,_,⟨a,b,e,D,V⟩=>by
  obtain⟨g1,g2⟩:=h.2.2 _ _ _ D;obtain⟨g3,g4⟩:=Re h V;exact⟨⟨a,b,e,g1,g3⟩,fun y hy=>by
   rcases iI.1 hy with rfl|hy
   ·exact g2
   ·exact g4 y hy⟩
def xF{r' :Rp α}(h:JW r' r ok):JW (eW r') (eW r) (inL ok):=⟨rfl,rfl,fun S cs xs ⟨a,cap,e,D,V,Z⟩=>by
 rcases Z with Z|⟨b,off,c,E,fr,e1,e2,e3⟩
 ·exact⟨⟨a,cap,e,D,V,.inl Z⟩,by omega,fun x I=>by rw [Z]at I;cases I⟩
 ·rw [h.1]at e3;obtain⟨g1,g2⟩:=Re h e3;exact⟨⟨a,cap,e,D,V,.inr ⟨b,off,c,E,fr,e1,e2,g1⟩⟩,by omega,g2⟩⟩
def iS{p' p:Rp α}{q' :Rp β}{f:α->Prop}{g:β->Prop}(h:JW p' p f)(k:JW q' q g):JW (cu p' q') (cu p q) (fun x=>f x.1/\g x.2):=
 ⟨by show p'.sz+q'.sz=p.sz+q.sz;rw [h.1,k.1],rfl,fun S cs x ⟨a,b,e,D,V⟩=>⟨⟨a,b,e,(h.2.2 _ _ _ D).1,(k.2.2 _ _ _ V).1⟩,(h.2.2 _ _ _ D).2,(k.2.2 _ _ _ V).2⟩⟩
def uD{p' p:Rp α}{f:β->α}(h:JW p' p ok):JW (nS p' f) (nS p f) (fun x=>ok (f x)):=
 ⟨h.1,rfl,fun S cs x k=>h.2.2 _ _ _ k⟩
def R8{r' :Rp α}(h:Bl enc P W t r')(hr:JW r' r ok)(hag:r.agg=true){d:DataW hg}{ps:List MemPlace}(hv:DataW.Trod enc P W 0 (fun _=>true) true t v d ps)(hc:v= .agg v.cells): ∃y,(tD r y).p (Nb W) v/\ok y:=by
 obtain⟨fuel,I⟩:=hv;obtain⟨y,hy⟩:=h.2 _ _ _ I;obtain⟨g1,g2⟩:=hr.2.2 _ _ _ hy;exact⟨y,⟨_,by unfold Rp.val;rw [hag,bq rfl];exact hc,g1⟩,g2⟩
def DK{l:Array Field}(Y:P.underlying t=some (.struct l))(hv:Value.okWide P W .any base t v):v= .agg v.cells:=by
 unfold Value.okWide at hv;rw [Y]at hv;obtain⟨cs,e,_⟩:=hv;rw [e];rfl
end
variable{Ds:List (DataW Unit)}
section
variable{held:Bool}
def ZL(P:Program)(W:World)(held:Bool)(t:TypeId)(h1:DataW Unit)(cells:List Value):Prop:=
 P.cellsOf t=cells.length/\ ∀fuel cs x,DataW.trod (fun _=>()) P W 0 (fun _=>true) held fuel t cs=some x->x.1=h1->cs=cells
def Ki{n:Int}(h:P.underlying t=some (.int k))(hc:P.cellsOf t=1):ZL P W held t (.lit (.int k n)) [.int k n]:=⟨hc,fun fuel cs x I hD=>by
 obtain⟨m,D,V,_⟩:=DataW.trod_int h I;subst V;simp only [DataW.lit.injEq,Lit.int.injEq,true_and]at hD;rw [D,hD]⟩
def gR{s:List UInt8}(h:P.underlying t=some .string)(hc:P.cellsOf t=1):ZL P W held t (.lit (.string s)) [.string ⟨s.toArray⟩]:=⟨hc,fun fuel cs x I hD=>by
 obtain⟨m,D,V,_⟩:=DataW.trod_string h I;subst V;simp only [DataW.lit.injEq,Lit.string.injEq]at hD;subst hD;rw [D]⟩
def FC(P:Program)(W:World)(held:Bool)(off:Nat)(l:List (TypeId×Nat))(Ds:List (DataW Unit))(cells:List Value):Prop:=
 ∀(n:Nat) (cs:List Value),cs.length=off+cells.length->(∀(i:Nat) f,l[i]? =some f-> ∃x,DataW.trod (fun _=>()) P W 0 (fun _=>true) held n f.1 ((cs.drop f.2).take (P.cellsOf f.1))=some x/\Ds[i]? =some x.1)->cs.drop off=cells
def HP{off:Nat}:FC P W held off [] [] []:=fun n cs hl _=>Ec (by simp at hl;omega)
def fq{off off' :Nat}{l:List (TypeId×Nat)}{h1:DataW Unit}{c:List Value}(h:ZL P W held t h1 c)(ho:off' =off+c.length)(k:FC P W held off' l Ds cells):FC P W held off ((t,off)::l) (h1::Ds) (c++cells):=fun n cs hl I=>by
 obtain⟨x,D,V⟩:=I 0 (t,off) rfl;simp only [J9,LO]at V;have Z:=h.2 n _ x D V.symm;have h4:=k n cs (by rw [hl,ho,jY];omega) fun i f Q=>by simpa using I (i+1) f (by simpa using Q)
 have e:cs.drop off=(cs.drop off).take (P.cellsOf t)++cs.drop off' :=by
  rw [ho,<-h.1,<-vE,vn]
 rw [e,h4];exact congrArg (· ++cells) Z
def Ca{l:List (TypeId×Nat)}(Y:(P.underlying t).map (fun d=>match d with| .struct l=>(true,l.toList.map fun f=>(f.type,f.offset))|_=>(false,[]))=some (true,l))(hc:P.cellsOf t=cells.length)(Q:FC P W held 0 l Ds cells):ZL P W held t (.agg Ds) cells:=⟨hc,fun fuel cs x I hD=>by
 obtain⟨fs,D,V⟩: ∃fs,P.underlying t=some (.struct fs)/\fs.toList.map (fun f=>(f.type,f.offset))=l:=by
  cases hu:P.underlying t with
  |none=>rw [hu]at Y;cases Y
  |some d=>
   rw [hu]at Y;cases d<;>simp at Y;exact⟨_,rfl,Y⟩
 obtain⟨xs,n,rfl,Z,h4,h5,h6⟩:=DataW.trod_struct D I;rw [Z]at hD;simp only [DataW.agg.injEq]at hD;have:=Q n cs (by rw [h4,hc];omega) fun i f hi=>by
  rw [<-V,D9]at hi;obtain⟨f0,hf0,rfl⟩:=CN.1 hi;have h7:=h6 i f0 (by simpa using hf0);have o_:i<xs.length:=by
   have:=(oC.1 hf0).1;rw [h5];simpa using this
  rw [qV o_]at h7;exact⟨xs[i],h7,by rw [<-hD];simp [o_]⟩
 rwa [vj]at this⟩
def Q3{m:Nat}(Y:P.underlying t=some (.array m e))(hc:P.cellsOf t=cells.length)(Q:FC P W held 0 ((List.range m).map fun i=>(e,i*P.cellsOf e)) Ds cells):ZL P W held t (.agg Ds) cells:=⟨hc,fun fuel cs x I hD=>by
 obtain⟨xs,n,rfl,Z,h4,h5,h6⟩:=DataW.trod_array Y I;rw [Z]at hD;simp only [DataW.agg.injEq]at hD;have:=Q n cs (by rw [h4,hc];omega) fun i f hi=>by
  rw [D9]at hi;obtain⟨j,hj,rfl⟩:=CN.1 hi;obtain⟨o_,hj2⟩:=oC.1 hj;simp at o_ hj2;subst hj2;have h7:=h6 i o_;have hlt' :i<xs.length:=by rw [h5];exact o_
  rw [qV hlt']at h7;exact⟨xs[i],h7,by rw [<-hD];simp [hlt']⟩
 rwa [vj]at this⟩
def Nf: ∀{L:List (String×DataW Unit)} {ps:List MemPlace},DataW.LaidVars P W L ps-> ∀n d,(n,d)∈L-> ∃g t cs fuel p,P.globalNamed n=some g/\(P.globals[g]?).map (·.type)=some t/\W.var? P n=some cs/\DataW.trod (fun _=>()) P W 0 (fun _=>true) false fuel t cs.toList=some (d,p)
 |(_,_)::_,_,⟨g,t,cs,fuel,p,_,D,V,Z,h4,_,_⟩,_,_,.head _=>⟨g,t,cs,fuel,p,D,V,Z,h4⟩
 |(_,_)::_,_,⟨_,_,_,_,_,_,_,_,_,_,h,_⟩,n,d,.tail _ hm=>Nf h n d hm
def Du{L:List (String×DataW Unit)}(h:laidMet P L W){n:String}{d:DataW Unit}(hm:(n,d)∈L){g:Nat}(H:P.globalNamed n=some g)(Y:(P.globals[g]?).map (·.type)=some t)(hc:ZL P W false t d cells):
  ∃c T fr,W.heap[g]? =some (.cells c T fr)/\c.toList.take cells.length=cells:=by
 obtain⟨ps,hL,_,_⟩:=h;obtain⟨g',t',cs,fuel,p,D,V,Z,h4⟩:=Nf hL n d hm;obtain rfl:=qr (H.symm.trans D);obtain rfl:=qr (Y.symm.trans V);have h5:=hc.2 fuel _ _ h4 rfl;unfold World.var? at Z;rw [H]at Z;simp only [bh]at Z;split at Z
 ·rename_i c T fr K;cases Z;exact⟨_,_,_,K,by rw [h5,BH]⟩
 ·cases Z
end
def MC{α:Type}{r:Rp α}(A_: ∀{S S' :SH} {cs:List Value} {x:α},r.rc S cs x->r.rc S' cs x){S S' :SH}: ∀{xs:List α} {cs:List Value},vq r S cs xs->vq r S' cs xs
 |[],_,h=>h
 |_::_,_,h=>by
  obtain⟨ds,es,D,V,Z⟩:=h;exact⟨ds,es,D,A_ V,MC A_ Z⟩
variable{S1:SH}
def aeV(h:AP mm r T l cap xs w S)(hs:kQ w S): ∃S1,SH.le S S1/\kQ w S1/\(tD (eW r) xs).p S1 (ak l cap xs.length):=by
 cases mm with
 |true=>exact⟨S,SH.le_refl _,hs,pY h⟩
 |false=>
  obtain⟨cells,D,V,Z⟩:=h
  cases l with
  |none=>exact⟨S,SH.le_refl _,hs,pY (T:=T) ⟨cells,D,V,fun b K=>(by cases K)⟩⟩
  |some b=>
   obtain⟨cur,g1,g2,g3,g4,g5⟩:=D;have hoo:Ig (.cells cells.toArray T (0,0)) (.cells cur T (0,0)):=by
    refine⟨cur.toList.drop (xs.length*r.sz),?_⟩;congr 1;apply Array.ext';rw [<-g5,vn]
   have hn:S b=none:=Z b rfl;have hle:SH.le S (S.set b (.cells cells.toArray T (0,0))):=yx fun q hq=>(by rw [hn]at hq;cases hq);have C_:kQ w (S.set b (.cells cells.toArray T (0,0))):=hs.set g1 hoo fun q hq=>by rw [hn]at hq;cases hq
   refine⟨_,hle,C_,pY (T:=T) ⟨cells,⟨cur,g1,g2,g3,g4,g5⟩,u3 hle V,fun b' hb' =>?_⟩⟩;have hb2:b=b' :=qr hb';subst hb2;exact pE _ _ _
variable{N:Fr}
section
def uW{t:Ty}{vs:List Value}(h:t.p S1 v)(k:yw S1 ts vs):yw S1 (t::ts) (v::vs):=⟨h,k⟩
def Q0{G:oz}{t:Ty}(h:aG N G x t)(Q:cH N S a G)(hle:SH.le S S1):t.p S1 (a.eval x):=t.mono hle (h S a Q)
def Kn{b:Bool}(S S' :SH)(v:Value)(h:(tD rB b).p S v):(tD rB b).p S' v:=jN.2 (jN.1 h)
end
section
def hH{y:α}(hag:r.agg=true)(hr: ∀S,r.rc S [v] y)(h:aG N G x (tV (.agg #[v]))):aG N G x (tD r y):=fun S a Q=>⟨[v],by rw [Rp.val,bq hag];exact h S a Q,hr S⟩
end
section
variable{N:Nat}{w0:World}{S0:SH}{O1:List OE}{ι:Type}{t:ι->Ty}{O2:ι->List OE}
end
section
variable{c:Code}
end
def J{α:Sort _}{a:α}:a=a:=rfl
def aW:True:=trivial
abbrev bX(x:Int):Ty:=tD (rI .i64) x
abbrev gp(x:Bool):Ty:=tD rB x
abbrev jg{α:Type}(l:List α):Ty:=tD (rI .i64) (l.length:Int)
abbrev gG:Rp (List Int):=eW (rI .i64)
abbrev gM(l:List Int):Ty:=tD (eW (rI .i64)) l
abbrev fI{α:Type}(r:Rp α)(l:List α):Ty:=tD (eW r) l
abbrev s5{α:Type}(l:Option Nat)(c:Nat)(xs:List α):Ty:=tV (ak l c xs.length)
def aX: ∀{G' G:oz},G'.map (fun p=>look G p.1)=G'.map (fun p=>some p.2)->OZ G' G
 |[],_,_=>trivial
 |(_,_)::_,_,h=>⟨(List.cons.inj h).1,aX (List.cons.inj h).2⟩
variable{bytes ix:Nat}{xt yt:TypeId}
section
def kR{x:Nat}{t:Ty}(h:look G x=some t):ck E O G ⟨dst,.move (.tmp x),ty,pos,after,g⟩ t:=bH (Y h)
def yO{x:Nat}{t:Ty}(h:look G x=some t):ck E O G ⟨dst,.assign (.tmp x),ty,pos,after,g⟩ t:=bL (Y h)
def zai{n:Int}:ck E O G ⟨dst,.assign (.const (.int k n)),ty,pos,after,g⟩ (tD (rI k) n):=bL hI
def zab{b:Bool}:ck E O G ⟨dst,.assign (.const (.bool b)),ty,pos,after,g⟩ (tD rB b):=bL hB
def m9{x:α}{sz:Nat}(ti:TI E.P U sz bytes agg z)(hp:look G p=some (aY r x))(hs:(r.sz,r.agg)=(sz,agg)):
  ck E O G ⟨dst,.load U (.tmp p),ty,pos,after,g⟩ (tD r x):=eJ ti (zU hs).1 (zU hs).2 (Y hp)
def mj{get:α->β}{x:α}{off sz:Nat}(Q:cb E.P T i=some (off,sz))(hq:mT r off q get)(hp:look G p=some (aY r x))(h0:(!(Nat.beq sz 0)&&Nat.ble (off+q.sz) r.sz)=true):ck E O G ⟨dst,.fieldAddr T (.tmp p) i,ty,pos,after,g⟩ (aY q (get x)):=
 dP Q (by cases h:Nat.beq sz 0<;>simp [h]at h0 ⊢) hq (by revert h0;cases Nat.ble (off+q.sz) r.sz<;>simp) (Y hp)
def WP{x:Nat}(hu:E.P.underlying t=some (.slice e))(I:look G x=some (tD (eW r) xs)):
  ck E O G ⟨dst,.call ⟨.builtin .len,#[.tmp x],#[t]⟩,ty,pos,after,g⟩ (tD (rI .i64) (xs.length:Int)):=iY hu (Y I)
def Sw{x:Nat}{t:Ty}(hi:ts[i]? =some t)(I:look G x=some (tT ts)):ck E O G ⟨dst,.extract (.tmp x) i,ty,pos,after,g⟩ t:=Hw hi (Y I)
def zbx{v:α}{x:Nat}(I:look G x=some (tD r v)):ck E O G ⟨dst,.box T (.tmp x),ty,pos,after,g⟩ (aY r v):=PE (Y I)
def zpa{x:Nat}{b q:Bool}(hc:look G c=some (tD rB b))(I:look G x=some (pI b (tD rB q))):ck E O G ⟨dst,.pick (.tmp c) (.tmp x) (.const (.bool false)),ty,pos,after,g⟩ (tD rB (b&&q)):=sl (Y hc) (fun K=>br I K)
def ZU{x:Nat}{b q:Bool}(hc:look G c=some (tD rB b))(I:look G x=some (pI (!b) (tD rB q))):ck E O G ⟨dst,.pick (.tmp c) (.const (.bool true)) (.tmp x),ty,pos,after,g⟩ (tD rB (b||q)):=nh (Y hc) (fun K=>br I (sn K))
variable{x y:Nat}{m n:Int}
def zlt(I:look G x=some (tD (rI k) m))(hy:look G y=some (tD (rI k) n)):ck E O G ⟨dst,.binOp .lss xt (.tmp x) (.tmp y) yt,ty,pos,after,g⟩ (tD rB (decide (m<n))):=gA (Y I) (Y hy)
def WI(I:look G x=some (tD (rI j) m)):ck E O G ⟨dst,.binOp .eql xt (.tmp x) (.const (.int j n)) yt,ty,pos,after,g⟩ (tD rB (m==n)):=fc (Y I) hI
def zni(I:look G x=some (tD (rI j) m)):ck E O G ⟨dst,.binOp .neq xt (.tmp x) (.const (.int j n)) yt,ty,pos,after,g⟩ (tD rB (m !=n)):=jV (Y I) hI
def GN{y:α}{x:Nat}{k:IntKind}{i:Int}{sz:Nat}(hu:E.P.underlying t=some (.slice e))(ti:TI E.P e sz bytes agg z)(k_:r.sz=sz)(I:look G x=some (tD (eW r) xs))(hi:look G ix=some (tD (rI k) i))(hy:dm xs i=some y):
  ck E O G ⟨dst,.indexAddr t (.tmp x) (.tmp ix),ty,pos,after,g⟩ (aY r y):=aS hu ti k_ (Y I) (Y hi) hy
def zin{x:Nat}{xt yt:TypeId}(hi:i<9223372036854775807)(I:look G x=some (tD (rI .i64) (i:Int))):
  ck E O G ⟨dst,.binOp .add xt (.tmp x) (.const (.int .i64 1)) yt,ty,pos,after,g⟩ (tD (rI .i64) ((i+1:Nat):Int)):=Bb hi (Y I) hI
def qd{off sz o:Nat}(n:Nat)(Q:cb E.P T i=some (off,sz))(h0:Nat.beq sz 0=false)(hp:look G p=some (tV (an b o)))(he:o+off=n):ck E O G ⟨dst,.fieldAddr T (.tmp p) i,ty,pos,after,g⟩ (tV (an b n)):=bS (n:=n) Q h0 (Y hp) he
end
variable{op:Op}{ops:Array Oper}
section
variable{l:List Oper}
def zo{t:Ty}(hd:Nat.blt d E.N.n=true)(h:ck E O G ⟨some d,op,ty,pos,after,none⟩ t)(k:RG E ops hf l O ((d,t)::G)):
  RG E ops hf (⟨some d,op,ty,pos,after,none⟩::l) O G:=vC h hd k
def y9(n d:Nat)(r:Option Ty):Option Ty:=if Nat.blt d n then r else none
def ee{r:Option Ty}{t:Ty}(h:y9 n d r=some t):Nat.blt d n=true/\r=some t:=by
 unfold y9 at h;split at h
 case isTrue D=>exact⟨D,h⟩
 case isFalse=>cases h
def aQ{x:Nat}{t:Ty}(h:y9 E.N.n d (look G x)=some t)(k:RG E ops hf l O ((d,t)::G)):
  RG E ops hf (⟨some d,.move (.tmp x),ty,pos,after,none⟩::l) O G:=vC (bH (Y (ee h).2)) (ee h).1 k
def fX{x:Nat}{t:Ty}(h:y9 E.N.n d (look G x)=some t)(k:RG E ops hf l O ((d,t)::G)):
  RG E ops hf (⟨some d,.assign (.tmp x),ty,pos,after,none⟩::l) O G:=vC (bL (Y (ee h).2)) (ee h).1 k
def bA(h:CG E hf y O G):RG E ops (Exit.then (y.wpIn (fw E.r) 0 E.P hf) hf) [] O G:=bm (ax h)
def aV{id:Nat}{l:List Oper}(h:RG E l.toArray (Exit.then (y.wpIn (fw E.r) 0 E.P hf) hf) l O G):CG E hf (.seq (.region id l.toArray false) y) O G:=aw (au h)
def oS{β:Type _}{X ht:Option β}{r:β}{x:Code}{b:Bool}(h:(if b=true then X else ht)=some r)(K:look G c=some (tD rB b))(I:X=some r->CG E hf x O G)(hy:ht=some r->CG E hf y O G):CG E hf (.cond (.tmp c) x y) O G:=
 qC (Y K) (fun hc=>I (ct h hc)) (fun hc=>hy (cf h hc))
def kp(h:CG E hf y O G):CG E (Exit.then (y.wpIn (fw E.r) 0 E.P hf) hf) .skip O G:=bl (ax h)
def zgt{j:Nat}{b:Bool}{t:Ty}(hj:(ops[j]?).bind (·.dst)=some gs)(H:y9 E.N.n gs (y9 E.N.n d (look G gs))=some (tD rB b))(h:b=true->ck E O G ⟨some d,op,ty,pos,after,some (j,true)⟩ t)(k:RG E ops hf l O ((d,pI b t)::G)):RG E ops hf (⟨some d,op,ty,pos,after,some (j,true)⟩::l) O G:=Y8 hj (ee H).1 (ee (ee H).2).2 (ee (ee H).2).1 h k
def zgf{j:Nat}{b:Bool}{t:Ty}(hj:(ops[j]?).bind (·.dst)=some gs)(H:y9 E.N.n gs (y9 E.N.n d (look G gs))=some (tD rB b))(h:(!b)=true->ck E O G ⟨some d,op,ty,pos,after,some (j,false)⟩ t)(k:RG E ops hf l O ((d,pI (!b) t)::G)):RG E ops hf (⟨some d,op,ty,pos,after,some (j,false)⟩::l) O G:=Y9 hj (ee H).1 (ee (ee H).2).2 (ee (ee H).2).1 h k
end
def cy{α:Type _}{β:Type _}{x:Option α}{k:α->Option β}{r:β}{P:Prop}(h:x.bind k=some r)(f: ∀y,x=some y->k y=some r->P):P:=by
 obtain⟨y,D,V⟩:=bs h;exact f y D V
variable{u1:Ty}
section
variable{l:List Oper}{o:Oper}{t:Ty}
def Gi{a b c:Bool}(h:(a&&b&&c)=true):a=true/\b=true/\c=true:=by revert h;cases a<;>cases b<;>cases c<;>simp
def isn{x:Option α}(h:x.isNone=true):x=none:=by cases x;rfl;cases h
def zd0(h:ts[i]? =some t)(k:ck E O [] o t)(K:(fU i o&&o.guard.isNone)=true:=by exact rfl): ∃(needs:List Nd) (t:Ty),ts[i]? =some t/\vh G ts needs/\(needs.all (ro l o i))=true/\fU i o=true/\bF E O l.toArray (lO needs) o t:=
 ⟨[],t,h,trivial,rfl,(E4.1 K).1,aa (isn (E4.1 K).2) k⟩
def oU(a:Nat)(h:ts[i]? =some t)(hu:AS G ts ⟨a,u,none⟩)(k:ck E O [(a,u)] o t)(K:([(⟨a,u,none⟩:Nd)].all (ro l o i)&&fU i o&&o.guard.isNone)=true:=by exact rfl): ∃(needs:List Nd) (t:Ty),ts[i]? =some t/\vh G ts needs/\(needs.all (ro l o i))=true/\fU i o=true/\bF E O l.toArray (lO needs) o t:=
 ⟨[(⟨a,u,none⟩:Nd)],t,h,⟨hu,trivial⟩,(Gi K).1,(Gi K).2.1,aa (isn (Gi K).2.2) k⟩
def dy(a:Nat)(j:Nat)(h:ts[i]? =some t)(hu:AS G ts ⟨a,u,(some j)⟩)(k:ck E O [(a,u)] o t)(K:([(⟨a,u,(some j)⟩:Nd)].all (ro l o i)&&fU i o&&o.guard.isNone)=true:=by exact rfl): ∃(needs:List Nd) (t:Ty),ts[i]? =some t/\vh G ts needs/\(needs.all (ro l o i))=true/\fU i o=true/\bF E O l.toArray (lO needs) o t:=
 ⟨[(⟨a,u,(some j)⟩:Nd)],t,h,⟨hu,trivial⟩,(Gi K).1,(Gi K).2.1,aa (isn (Gi K).2.2) k⟩
def rn(a:Nat)(a1:Nat)(j1:Nat)(h:ts[i]? =some t)(hu:AS G ts ⟨a,u,none⟩)(hu1:AS G ts ⟨a1,u1,(some j1)⟩)(k:bF E O l.toArray [(a,u),(a1,u1)] o t)(K:([(⟨a,u,none⟩:Nd),⟨a1,u1,(some j1)⟩].all (ro l o i)&&fU i o)=true:=by exact rfl): ∃(needs:List Nd) (t:Ty),ts[i]? =some t/\vh G ts needs/\(needs.all (ro l o i))=true/\fU i o=true/\bF E O l.toArray (lO needs) o t:=
 ⟨[(⟨a,u,none⟩:Nd),⟨a1,u1,(some j1)⟩],t,h,⟨hu,hu1,trivial⟩,(E4.1 K).1,(E4.1 K).2,k⟩
def eQ(a:Nat)(j:Nat)(a1:Nat)(j1:Nat)(h:ts[i]? =some t)(hu:AS G ts ⟨a,u,(some j)⟩)(hu1:AS G ts ⟨a1,u1,(some j1)⟩)(k:ck E O [(a,u),(a1,u1)] o t)(K:([(⟨a,u,(some j)⟩:Nd),⟨a1,u1,(some j1)⟩].all (ro l o i)&&fU i o&&o.guard.isNone)=true:=by exact rfl): ∃(needs:List Nd) (t:Ty),ts[i]? =some t/\vh G ts needs/\(needs.all (ro l o i))=true/\fU i o=true/\bF E O l.toArray (lO needs) o t:=
 ⟨[(⟨a,u,(some j)⟩:Nd),⟨a1,u1,(some j1)⟩],t,h,⟨hu,hu1,trivial⟩,(Gi K).1,(Gi K).2.1,aa (isn (Gi K).2.2) k⟩
def hY(a:Nat)(j:Nat)(a1:Nat)(j1:Nat)(h:ts[i]? =some t)(hu:AS G ts ⟨a,u,(some j)⟩)(hu1:AS G ts ⟨a1,u1,(some j1)⟩)(k:bF E O l.toArray [(a,u),(a1,u1)] o t)(K:([(⟨a,u,(some j)⟩:Nd),⟨a1,u1,(some j1)⟩].all (ro l o i)&&fU i o)=true:=by exact rfl): ∃(needs:List Nd) (t:Ty),ts[i]? =some t/\vh G ts needs/\(needs.all (ro l o i))=true/\fU i o=true/\bF E O l.toArray (lO needs) o t:=
 ⟨[(⟨a,u,(some j)⟩:Nd),⟨a1,u1,(some j1)⟩],t,h,⟨hu,hu1,trivial⟩,(E4.1 K).1,(E4.1 K).2,k⟩
def E9(a:Nat)(j:Nat)(a1:Nat)(j1:Nat)(a2:Nat)(j2:Nat){u2:Ty}(h:ts[i]? =some t)(hu:AS G ts ⟨a,u,(some j)⟩)(hu1:AS G ts ⟨a1,u1,(some j1)⟩)(hu2:AS G ts ⟨a2,u2,(some j2)⟩)(k:ck E O [(a,u),(a1,u1),(a2,u2)] o t)(K:([(⟨a,u,(some j)⟩:Nd),⟨a1,u1,(some j1)⟩,⟨a2,u2,(some j2)⟩].all (ro l o i)&&fU i o&&o.guard.isNone)=true:=by exact rfl): ∃(needs:List Nd) (t:Ty),ts[i]? =some t/\vh G ts needs/\(needs.all (ro l o i))=true/\fU i o=true/\bF E O l.toArray (lO needs) o t:=
 ⟨[(⟨a,u,(some j)⟩:Nd),⟨a1,u1,(some j1)⟩,⟨a2,u2,(some j2)⟩],t,h,⟨hu,hu1,hu2,trivial⟩,(Gi K).1,(Gi K).2.1,aa (isn (Gi K).2.2) k⟩
def w8(a:Nat)(j:Nat)(a1:Nat)(j1:Nat)(a2:Nat)(j2:Nat){u2:Ty}(h:ts[i]? =some t)(hu:AS G ts ⟨a,u,(some j)⟩)(hu1:AS G ts ⟨a1,u1,(some j1)⟩)(hu2:AS G ts ⟨a2,u2,(some j2)⟩)(k:bF E O l.toArray [(a,u),(a1,u1),(a2,u2)] o t)(K:([(⟨a,u,(some j)⟩:Nd),⟨a1,u1,(some j1)⟩,⟨a2,u2,(some j2)⟩].all (ro l o i)&&fU i o)=true:=by exact rfl): ∃(needs:List Nd) (t:Ty),ts[i]? =some t/\vh G ts needs/\(needs.all (ro l o i))=true/\fU i o=true/\bF E O l.toArray (lO needs) o t:=
 ⟨[(⟨a,u,(some j)⟩:Nd),⟨a1,u1,(some j1)⟩,⟨a2,u2,(some j2)⟩],t,h,⟨hu,hu1,hu2,trivial⟩,(E4.1 K).1,(E4.1 K).2,k⟩
end
def zE{r s:Option Ty}{t:Ty}(h:(y9 n d r,s)=(some t,some u)):Nat.blt d n=true/\r=some t/\s=some u:=
 ⟨(ee (zU h).1).1,(ee (zU h).1).2,(zU h).2⟩
def Zg(G:oz):Operand->Option Ty
 | .tmp k=>look G k
 | .const (.int k n)=>some (tD (rI k) n)
 | .const (.bool b)=>some (tD rB b)
 |_=>none
def OP{t:Ty}: ∀{x:Operand},Zg G x=some t->aG N G x t
 | .tmp _,h=>Y h
 | .const (.int _ _),h=>by cases h;exact hI
 | .const (.bool _),h=>by cases h;exact hB
def cA{N:Fr}{G:oz}: ∀{xs:List Operand} {ts:List Ty},xs.map (Zg G)=ts.map some->k5 N G xs ts
 |[],[],_=>trivial
 |_::_,_::_,h=>⟨OP (List.cons.inj h).1,cA (List.cons.inj h).2⟩
variable{after2:Array Edge}{ats:Array TypeId}{d2:Nat}{E_:FuncId}{id' :Nat}{pos2:String}{tl:List α}{ty2:TypeId}{γ:β->Ty}
section
variable{l:List Oper}{t:Ty}
def M(h:ck E O G ⟨some d,op,ty,pos,after,none⟩ t)(k:RG E ops hf l O ((d,t)::G))(hd:Nat.blt d E.N.n=true:=by exact rfl):
  RG E ops hf (⟨some d,op,ty,pos,after,none⟩::l) O G:=vC h hd k
def cx{x:α}{sz:Nat}(ti:TI E.P U sz bytes agg z)(hp:y9 E.N.n d (look G p)=some (aY r x))(k:RG E ops hf l O ((d,tD r x)::G))(hs:(r.sz,r.agg)=(sz,agg):=by exact rfl):RG E ops hf (⟨some d,.load U (.tmp p),ty,pos,after,none⟩::l) O G:=zo (ee hp).1 (m9 ti (ee hp).2 hs) k
def qx{get:α->β}{x:α}{off sz:Nat}(Q:cb E.P T i=some (off,sz))(hq:mT r off q get)(hp:y9 E.N.n d (look G p)=some (aY r x))(k:RG E ops hf l O ((d,aY q (get x))::G))(h0:(!(Nat.beq sz 0)&&Nat.ble (off+q.sz) r.sz)=true:=by exact rfl):
  RG E ops hf (⟨some d,.fieldAddr T (.tmp p) i,ty,pos,after,none⟩::l) O G:=zo (ee hp).1 (mj Q hq (ee hp).2 h0) k
def bg{get:α->β}{x:α}{off sz s2:Nat}{p2:Nat}(Q:cb E.P T i=some (off,sz))(hq:mT r off q get)(ti:TI E.P U s2 bytes agg z)(hp:y9 E.N.n d (look G p)=some (aY r x))(k:RG E ops hf l O ((d2,tD q (get x))::(d,aY q (get x))::G))(h0:(!(Nat.beq sz 0)&&Nat.ble (off+q.sz) r.sz)=true:=by exact rfl)(hp2:y9 E.N.n d2 (look ((d,aY q (get x))::G) p2)=some (aY q (get x)):=by exact rfl)(hs:(q.sz,q.agg)=(s2,agg):=by exact rfl):
  RG E ops hf (⟨some d,.fieldAddr T (.tmp p) i,ty,pos,after,none⟩::⟨some d2,.load U (.tmp p2),ty2,pos2,after2,none⟩::l) O G:=qx Q hq hp (cx ti hp2 k hs) h0
def bI{off sz o:Nat}(n:Nat)(Q:cb E.P T i=some (off,sz))(hp:y9 E.N.n d (look G p)=some (tV (an b o)))(k:RG E ops hf l O ((d,tV (an b n))::G))(h0:Nat.beq sz 0=false:=by exact rfl)(he:o+off=n:=by exact rfl):RG E ops hf (⟨some d,.fieldAddr T (.tmp p) i,ty,pos,after,none⟩::l) O G:=zo (ee hp).1 (qd n Q h0 (ee hp).2 he) k
def dq{x:Nat}(I:y9 E.N.n d (look G x)=some (tT ts))(hi:ts[i]? =some t)(k:RG E ops hf l O ((d,t)::G)):RG E ops hf (⟨some d,.extract (.tmp x) i,ty,pos,after,none⟩::l) O G:=zo (ee I).1 (Sw hi (ee I).2) k
def cM{n:Int}(k:RG E ops hf l O ((d,tD (rI j) n)::G))(hd:Nat.blt d E.N.n=true:=by exact rfl):RG E ops hf (⟨some d,.assign (.const (.int j n)),ty,pos,after,none⟩::l) O G:=zo hd zai k
def bn{b:Bool}(k:RG E ops hf l O ((d,tD rB b)::G))(hd:Nat.blt d E.N.n=true:=by exact rfl):RG E ops hf (⟨some d,.assign (.const (.bool b)),ty,pos,after,none⟩::l) O G:=zo hd zab k
def cm{x:Nat}(hu:E.P.underlying st=some (.slice e))(I:y9 E.N.n d (look G x)=some (tD (eW r) xs))(k:RG E ops hf l O ((d,tD (rI .i64) (xs.length:Int))::G)):
  RG E ops hf (⟨some d,.call ⟨.builtin .len,#[.tmp x],#[st]⟩,ty,pos,after,none⟩::l) O G:=zo (ee I).1 (WP hu (ee I).2) k
def cR{v:α}{x:Nat}(I:y9 E.N.n d (look G x)=some (tD r v))(k:RG E ops hf l O ((d,aY r v)::G)):RG E ops hf (⟨some d,.box T (.tmp x),ty,pos,after,none⟩::l) O G:=zo (ee I).1 (zbx (ee I).2) k
def dx{x:Nat}{b q:Bool}(h:(y9 E.N.n d (look G c),look G x)=(some (tD rB b),some (pI b (tD rB q))))(k:RG E ops hf l O ((d,tD rB (b&&q))::G)):
  RG E ops hf (⟨some d,.pick (.tmp c) (.tmp x) (.const (.bool false)),ty,pos,after,none⟩::l) O G:=zo (zE h).1 (zpa (zE h).2.1 (zE h).2.2) k
def fV{x:Nat}{b q:Bool}(h:(y9 E.N.n d (look G c),look G x)=(some (tD rB b),some (pI (!b) (tD rB q))))(k:RG E ops hf l O ((d,tD rB (b||q))::G)):
  RG E ops hf (⟨some d,.pick (.tmp c) (.const (.bool true)) (.tmp x),ty,pos,after,none⟩::l) O G:=zo (zE h).1 (ZU (zE h).2.1 (zE h).2.2) k
section
variable{x y:Nat}{m n:Int}
def GO(h:(y9 E.N.n d (look G x),look G y)=(some (tD (rI j) m),some (tD (rI j) n)))(k:RG E ops hf l O ((d,tD rB (decide (m<n)))::G)):
  RG E ops hf (⟨some d,.binOp .lss xt (.tmp x) (.tmp y) yt,ty,pos,after,none⟩::l) O G:=zo (zE h).1 (zlt (zE h).2.1 (zE h).2.2) k
def cz(I:y9 E.N.n d (look G x)=some (tD (rI j) m))(k:RG E ops hf l O ((d,tD rB (m==n))::G)):RG E ops hf (⟨some d,.binOp .eql xt (.tmp x) (.const (.int j n)) yt,ty,pos,after,none⟩::l) O G:=zo (ee I).1 (WI (ee I).2) k
def mn(I:y9 E.N.n d (look G x)=some (tD (rI j) m))(k:RG E ops hf l O ((d,tD rB (m !=n))::G)):RG E ops hf (⟨some d,.binOp .neq xt (.tmp x) (.const (.int j n)) yt,ty,pos,after,none⟩::l) O G:=zo (ee I).1 (zni (ee I).2) k
def iu{c:Bool}(I:look G x=some (pI c (tD (rI j) m)))(hc:c=true):ck E O G ⟨dst,.binOp .eql xt (.tmp x) (.const (.int j n)) yt,ty,pos,after,g⟩ (tD rB (m==n)):=fc (br I hc) hI
def uV{c:Bool}(I:look G x=some (pI c (tD (rI j) m)))(hc:c=true):ck E O G ⟨dst,.binOp .neq xt (.tmp x) (.const (.int j n)) yt,ty,pos,after,g⟩ (tD rB (m !=n)):=jV (br I hc) hI
def dH{a id:Nat}{z w:Code}(I:xs.drop i=[])(h:(y9 E.N.n d (look G a),look G b)=(some (tD (rI .i64) (i:Int)),some (tD (rI .i64) (xs.length:Int))))(k:AT E hf .normal O ((d,tD rB (decide ((i:Int)<(xs.length:Int))))::G))(hc:look ((d,tD rB (decide ((i:Int)<(xs.length:Int))))::G) c=some (tD rB (decide ((i:Int)<(xs.length:Int)))):=by exact rfl):
  LG E (Exit.inBlock id hf) (.seq (.region id' [⟨some d,.binOp .lss xt (.tmp a) (.tmp b) yt,ty,pos,after,none⟩].toArray false) (.seq (.cond (.tmp c) z (.exit id)) w)) O G:=
 lI<|aV<|GO h<|bA<|aw<|wU (Y hc) (Zx I)<|iN<|aN (aN (dY k))
def dG{e:α}{a:Nat}{z w:Code}(I:xs.drop i=e::tl)(h:(y9 E.N.n d (look G a),look G b)=(some (tD (rI .i64) (i:Int)),some (tD (rI .i64) (xs.length:Int))))(k:CG E (Exit.then (Ct E.r E.P (.seq (.region id' [⟨some d,.binOp .lss xt (.tmp a) (.tmp b) yt,ty,pos,after,none⟩].toArray false) (.seq (.cond (.tmp c) .skip z) w)) hf) hf) w O ((d,tD rB (decide ((i:Int)<(xs.length:Int))))::G))(hc:look ((d,tD rB (decide ((i:Int)<(xs.length:Int))))::G) c=some (tD rB (decide ((i:Int)<(xs.length:Int)))):=by exact rfl):
  LG E hf (.seq (.region id' [⟨some d,.binOp .lss xt (.tmp a) (.tmp b) yt,ty,pos,after,none⟩].toArray false) (.seq (.cond (.tmp c) .skip z) w)) O G:=
 lI<|aV<|GO h<|bA<|aw<|wT (Y hc) (Wh I)<|kp k
end
def vA{y:α}{x:Nat}{i:Int}{sz:Nat}(hu:E.P.underlying st=some (.slice e))(ti:TI E.P e sz bytes agg z)(h:(y9 E.N.n d (look G x),look G ix)=(some (tD (eW r) xs),some (tD (rI j) i)))(hy:dm xs i=some y)(k:RG E ops hf l O ((d,aY r y)::G))(k_:r.sz=sz:=by exact rfl):
  RG E ops hf (⟨some d,.indexAddr st (.tmp x) (.tmp ix),ty,pos,after,none⟩::l) O G:=zo (zE h).1 (GN hu ti k_ (zE h).2.1 (zE h).2.2 hy) k
def dN{y:α}{x:Nat}{i:Int}{sz:Nat}{p2:Nat}(hu:E.P.underlying st=some (.slice e))(ti:TI E.P e sz bytes agg z)(h:(y9 E.N.n d (look G x),look G ix)=(some (tD (eW r) xs),some (tD (rI j) i)))(hy:dm xs i=some y)(k:RG E ops hf l O ((d2,tD r y)::(d,aY r y)::G))(k_:r.sz=sz:=by exact rfl)(hp2:y9 E.N.n d2 (look ((d,aY r y)::G) p2)=some (aY r y):=by exact rfl)(hs:(r.sz,r.agg)=(sz,agg):=by exact rfl):
  RG E ops hf (⟨some d,.indexAddr st (.tmp x) (.tmp ix),ty,pos,after,none⟩::⟨some d2,.load e (.tmp p2),ty2,pos2,after2,none⟩::l) O G:=vA hu ti h hy (cx ti hp2 k hs) k_
def bv{set:α->β->α}{x:α}{y:β}{off sz:Nat}{v:Nat}{ty:TypeId}(ti:TI E.P U sz bytes agg z)(I_:gn r off q set)(h:(look G p,look G v)=(some (tV (an b off)),some (tD q y)))(k:RG E ops hf l (bx r T b (set x y)::O) G)(k_:q.sz=sz:=by exact rfl)(hoff:Nat.ble (off+q.sz) r.sz=true:=by exact rfl):
  RG E ops hf (⟨none,.store U (.tmp p) (.tmp v),ty,pos,after,none⟩::l) (bx r T b x::O) G:=dZ ti k_ I_ hoff (Y (zU h).1) (Y (zU h).2) k
def QX(n:Nat)(ops:Array Oper)(d j:Nat)(G:oz):Option Ty:=((ops[j]?).bind (·.dst)).bind fun gs=>y9 n gs (y9 n d (look G gs))
def GP{d j:Nat}{ops:Array Oper}{t:Ty}(h:QX n ops d j G=some t): ∃gs,(ops[j]?).bind (·.dst)=some gs/\y9 n gs (y9 n d (look G gs))=some t:=by
 unfold QX at h
 cases H:(ops[j]?).bind (·.dst)with
 |none=>rw [H]at h;cases h
 |some gs=>rw [H]at h;exact⟨gs,rfl,h⟩
def aj{j:Nat}{b:Bool}(H:QX E.N.n ops d j G=some (tD rB b))(h:b=true->ck E O G ⟨some d,op,ty,pos,after,some (j,true)⟩ t)(k:RG E ops hf l O ((d,pI b t)::G)):
  RG E ops hf (⟨some d,op,ty,pos,after,some (j,true)⟩::l) O G:=by obtain⟨gs,D,V⟩:=GP H;exact zgt D V h k
def aC{j:Nat}{b:Bool}(H:QX E.N.n ops d j G=some (tD rB b))(h:(!b)=true->ck E O G ⟨some d,op,ty,pos,after,some (j,false)⟩ t)(k:RG E ops hf l O ((d,pI (!b) t)::G)):
  RG E ops hf (⟨some d,op,ty,pos,after,some (j,false)⟩::l) O G:=by obtain⟨gs,D,V⟩:=GP H;exact zgf D V h k
section
variable{c:Bool}
def cG{x:α}{sz:Nat}(ti:TI E.P U sz bytes agg z)(hp:look G p=some (pI c (aY r x)))(hs:(r.sz,r.agg)=(sz,agg))(hc:c=true):
  ck E O G ⟨dst,.load U (.tmp p),ty,pos,after,g⟩ (tD r x):=eJ ti (zU hs).1 (zU hs).2 (br hp hc)
def cZ{get:α->β}{x:α}{off sz:Nat}(Q:cb E.P T i=some (off,sz))(hq:mT r off q get)(hp:look G p=some (aY r x))(h0:(!(Nat.beq sz 0)&&Nat.ble (off+q.sz) r.sz)=true)(_:c=true):ck E O G ⟨dst,.fieldAddr T (.tmp p) i,ty,pos,after,g⟩ (aY q (get x)):=mj Q hq hp h0
def cY{x:Nat}(I:look G x=some t)(_:c=true):ck E O G ⟨dst,.move (.tmp x),ty,pos,after,g⟩ t:=kR I
def t8{x:Nat}(I:look G x=some (pI c t))(hc:c=true):ck E O G ⟨dst,.move (.tmp x),ty,pos,after,g⟩ t:=bH (br I hc)
def fM{x:Nat}(hu:E.P.underlying st=some (.slice e))(I:look G x=some (pI c (tD (eW r) xs)))(hc:c=true):
  ck E O G ⟨dst,.call ⟨.builtin .len,#[.tmp x],#[st]⟩,ty,pos,after,g⟩ (tD (rI .i64) (xs.length:Int)):=iY hu (br I hc)
def wj{b:Bool}{x:Nat}(I:look G x=some (pI c (tD rB b)))(hc:c=true):ck E O G ⟨dst,.unOp .not xt (.tmp x),ty,pos,after,g⟩ (tD rB (!b)):=gz (br I hc)
end
def aU{x:Nat}(h:y9 E.N.n d (look G x)=some t)(k:CG E hf y O ((d,t)::G)):RG E ops (Exit.then (y.wpIn (fw E.r) 0 E.P hf) hf) [⟨some d,.assign (.tmp x),ty,pos,after,none⟩] O G:=fX h (bA k)
def bO(h:AT E hf .ret O G):RG E ops (Exit.then (Code.ret.wpIn (fw E.r) 0 E.P hf) hf) [] O G:=bA (kM h)
def bz{x:Nat}(h:y9 E.N.n d (look G x)=some t)(k:AT E hf .ret O ((d,t)::G)):RG E ops (Exit.then (Code.ret.wpIn (fw E.r) 0 E.P hf) hf) [⟨some d,.assign (.tmp x),ty,pos,after,none⟩] O G:=fX h (bO k)
def bc{id:Nat}{z:Code}(h:RG E l.toArray (Exit.then (y.wpIn (fw E.r) 0 E.P (Exit.then (z.wpIn (fw E.r) 0 E.P hf) hf)) (Exit.then (z.wpIn (fw E.r) 0 E.P hf) hf)) l O G):CG E hf (.seq (.seq (.region id l.toArray false) y) z) O G:=aw (aV h)
def aB{id x:Nat}(h:y9 E.N.n d (look G x)=some t)(k:RG E ((⟨some d,.move (.tmp x),ty,pos,after,none⟩::l).toArray) (Exit.then (y.wpIn (fw E.r) 0 E.P hf) hf) l O ((d,t)::G)):
  CG E hf (.seq (.region id (⟨some d,.move (.tmp x),ty,pos,after,none⟩::l).toArray false) y) O G:=aV (aQ h k)
def eG{α β:Type _}{a:Option α}{f:α->Option β}{R:β}{xs:List Operand}{u:α->Ty}(h:a.bind f=some R)(hc:af E.P E_=true)(hs: ∀{y},a=some y->cN E.P E_ ts (u y))(I:k5 E.N G xs ts)(k: ∀y,f y=some R->RG E ops hf l O ((d,u y)::G))(hd:Nat.blt d E.N.n=true:=by exact rfl):RG E ops hf (⟨some d,.call ⟨.value (.func E_),xs.toArray,ats⟩,ty,pos,after,none⟩::l) O G:=
 cy h fun y hy h=>vC (cq hc (hs hy) I) hd (k y h)
def t7{α β:Type _}{γ:Type}{a:Option α}{f:α->Option β}{R:β}{r:Rp γ}{zs:α->List γ}{xs:List Operand}(h:a.bind f=some R)(hc:af E.P E_=true)(hs: ∀{y},a=some y->mi E.P E_ ts false r T (zs y))(I:k5 E.N G xs ts)(k: ∀y,f y=some R-> ∀b cap,RG E ops hf l (fa r T b cap (zs y)::O) ((d,tV (ak b cap (zs y).length))::G))(hd:Nat.blt d E.N.n=true:=by exact rfl):
  RG E ops hf (⟨some d,.call ⟨.value (.func E_),xs.toArray,ats⟩,ty,pos,after,none⟩::l) O G:=cy h fun y hy h=>Wz hc (hs hy) I hd (k y h)
def dg{e:α}{a id:Nat}(I:xs.drop i=e::tl)(hN:xs.length<=maxLen)(h:y9 E.N.n d (look G a)=some (tD (rI .i64) (i:Int)))(k:AT E hf .normal O ((d2,tD (rI .i64) ((i+1:Nat):Int))::(d,tD (rI .i64) ((i+1:Nat):Int))::G))(V:y9 E.N.n d2 (look ((d,tD (rI .i64) ((i+1:Nat):Int))::G) b)=some (tD (rI .i64) ((i+1:Nat):Int)):=by exact rfl):
  AT E (Exit.inBlock id (Exit.then ((Code.region id' [⟨some d,.binOp .add xt (.tmp a) (.const (.int .i64 1)) yt,ty,pos,after,none⟩,⟨some d2,.move (.tmp b),ty2,pos2,after2,none⟩].toArray false).wpIn (fw E.r) 0 E.P hf) hf)) .normal O G:=
 bf<|ax<|au<|zo (ee h).1 (zin (JR I hN) (ee h).2)<|aQ V<|bm k
def aco{e:α}{a b2 d3 id:Nat}{ty3:TypeId}{pos3:String}{after3:Array Edge}(I:xs.drop i=e::tl)(hN:xs.length<=maxLen)(h:y9 E.N.n d (look G a)=some (tD (rI .i64) (i:Int)))(k:AT E hf .normal O ((d3,tD (rI .i64) ((i+1:Nat):Int))::(d2,tD (rI .i64) ((i+1:Nat):Int))::(d,tD (rI .i64) (i:Int))::G))(D:y9 E.N.n d2 (look ((d,tD (rI .i64) (i:Int))::G) b)=some (tD (rI .i64) (i:Int)):=by exact rfl)(V:y9 E.N.n d3 (look ((d2,tD (rI .i64) ((i+1:Nat):Int))::(d,tD (rI .i64) (i:Int))::G) b2)=some (tD (rI .i64) ((i+1:Nat):Int)):=by exact rfl):
  AT E (Exit.inBlock id (Exit.then ((Code.region id' [⟨some d,.move (.tmp a),ty,pos,after,none⟩,⟨some d2,.binOp .add xt (.tmp b) (.const (.int .i64 1)) yt,ty2,pos2,after2,none⟩,⟨some d3,.assign (.tmp b2),ty3,pos3,after3,none⟩].toArray false).wpIn (fw E.r) 0 E.P hf) hf)) .normal O G:=
 bf<|ax<|au<|aQ h<|zo (ee D).1 (zin (JR I hN) (ee D).2)<|fX V<|bm k
section
variable{e:α}{a q1 q2 d3 d4 id:Nat}{ty3 ty4 u:TypeId}{pos3 pos4:String}{after3 after4:Array Edge}{z w:Code}
end
end
variable{fn:Func}
section
variable{l:List Oper}
def lU(r:Rp α)(k:RG E ops hf l O ((d,tD (eW r) [])::G))(hd:Nat.blt d E.N.n=true:=by exact rfl):RG E ops hf (⟨some d,.assign (.const (.slice none 0 0)),ty,pos,after,none⟩::l) O G:=zo hd (bL ID) k
def cD{β:Type _}{X ht:Option β}{r:β}{x:Code}{b:Bool}(h:(if b=true then X else ht)=some r)(K:look G c=some (tD rB b))(I:X=some r->CG E hf x O G)(hy:ht=some r->CG E hf y O G):
  RG E ops (Exit.then ((Code.cond (.tmp c) x y).wpIn (fw E.r) 0 E.P hf) hf) [] O G:=bA (oS h K I hy)
def dB{id:Nat}{hb:Act->World->Prop}(h:AT E hf .ret O G):AT E (Exit.inBlock id (Exit.then hb hf)) .ret O G:=py (ai h)
def jK{n:Int}(k:AT E hf .ret O ((d,tD (rI j) n)::G))(hd:Nat.blt d E.N.n=true:=by exact rfl):RG E ops (Exit.then (Code.ret.wpIn (fw E.r) 0 E.P hf) hf) [⟨some d,.assign (.const (.int j n)),ty,pos,after,none⟩] O G:=zo hd zai (bO k)
def dL{f:FuncId}{c:Code}{t:Ty}{N:Nat}(Q:P.funcs[f]? =some fn)(K:(fn.body,fn.ntmps,Nat.ble ts.length fn.ntmps)=(some c,N,true))(h: ∀{w0 S0},CG ⟨P,⟨N,[]⟩,sq,w0,S0,none⟩ (bodyPost P fn (IE ⟨P,⟨N,[]⟩,sq,w0,S0,none⟩ t)) c [] (wE 0 ts)):cN P f ts t:=by
 obtain⟨D,V⟩:=zU K;obtain⟨V,Z⟩:=zU V;subst V;exact cN.of Q D rfl Z fun _ _=>h
section
def acp{G:oz}{k:Nat}{t:Ty}:look ((k,t)::G) k=some t:=by simp [look]
def fg{x:Nat}(h:ts[i]? =some u)(hu:look G x=some u)(K:([(⟨x,u,none⟩:Nd)].all (ro l ⟨dst,.move (.tmp x),ty,pos,after,g⟩ i)&&fU i ⟨dst,.move (.tmp x),ty,pos,after,g⟩&&g.isNone)=true:=by exact rfl):
  ∃(needs:List Nd) (t:Ty),ts[i]? =some t/\vh G ts needs/\(needs.all (ro l ⟨dst,.move (.tmp x),ty,pos,after,g⟩ i))=true/\fU i ⟨dst,.move (.tmp x),ty,pos,after,g⟩=true/\bF E O l.toArray (lO needs) ⟨dst,.move (.tmp x),ty,pos,after,g⟩ t:=
 oU x h hu (kR acp) K
def gH{v:α}{x sz:Nat}(j:Nat)(ti:TI E.P U sz bytes agg z)(h:ts[i]? =some (tD r v))(hu:ts[j]? =some (aY r v))(hs:(r.sz,r.agg)=(sz,agg):=by exact rfl)(K:([(⟨x,aY r v,some j⟩:Nd)].all (ro l ⟨dst,.load U (.tmp x),ty,pos,after,g⟩ i)&&fU i ⟨dst,.load U (.tmp x),ty,pos,after,g⟩&&g.isNone)=true:=by exact rfl):
  ∃(needs:List Nd) (t:Ty),ts[i]? =some t/\vh G ts needs/\(needs.all (ro l ⟨dst,.load U (.tmp x),ty,pos,after,g⟩ i))=true/\fU i ⟨dst,.load U (.tmp x),ty,pos,after,g⟩=true/\bF E O l.toArray (lO needs) ⟨dst,.load U (.tmp x),ty,pos,after,g⟩ t:=
 dy x j h hu (m9 ti acp hs) K
end
end
structure RM{α β:Type}(hb:Nat)(F:Rp α->Rp β):Prop where
 sz: ∀r r',r.sz=hb->r'.sz=hb->(F r).sz=(F r').sz
 mono: ∀r r',r.sz=hb->r'.sz=hb->(∀S cs x,r.rc S cs x->r'.rc S cs x)-> ∀S cs x,(F r).rc S cs x->(F r').rc S cs x
 cont: ∀(R:Nat->Rp α),(∀n,(R n).sz=hb)->(∀n S cs x,(R n).rc S cs x->(R (n+1)).rc S cs x)-> ∀r,r.sz=hb->(∀S cs x,r.rc S cs x-> ∃n,(R n).rc S cs x)-> ∀S cs x,(F r).rc S cs x-> ∃n,∀m,n<=m->(F (R m)).rc S cs x
section
variable{c:Code}{e:Exit}
end
def aeW(v:Value):Prop:= ∃E_ fst cap,v= .func E_ fst cap
def Io(P:Program){α β:Type}(args:α->List Ty)(res:β->Ty)(f:α->Option β):Ty where
 p:=fun S v=>aeW v/\(tFn P args res f).p S v
 mono:=fun h k=>⟨k.1,(tFn P args res f).mono h k.2⟩
variable{res:β->Ty}
def wl(h:aG N G x (iM P args res f)):aG N G x (Io P args res f):=fun S a Q=>
 ⟨by obtain⟨E_,cap,e,_⟩:=h S a Q;exact⟨_,_,_,e⟩,aax h S a Q⟩
def tFo(P:Program){α β:Type}(args:α->List Ty)(res:β->Ty)(o:Option (α->Option β)):Ty where
 p:=fun S v=>match o with|some f=>(Io P args res f).p S v|none=>v= .nilFunc
 mono:=fun h k=>by
  cases o with
  |none=>exact k
  |some f=>exact(Io P args res f).mono h k
variable{et kt:TypeId}{kv:κ->Value}
section
variable [DecidableEq κ]{k:κ}{i:Operand}{dst:Option Nat}{φ:Type}{F:φ->α->Option β}
def MS{m:List (κ×φ)}(hm:E.P.underlying t=some (.map kt et))(hk:FP E.P kt kv)(hz:ZV E.P et .nilFunc)(I:aG E.N G x (UR (fun y=>Io E.P args res (F y)) kv m))(hi:B3 E.N G i (kv k)):
  ck E O G ⟨dst,.lookup t x i false,ty,pos,after,g⟩ (tFo E.P args res ((jC m k).map F)):= .of_pure fun a w S hs ho Q=>by
 obtain⟨b,es,clock,D,Z,h4⟩:=I S a Q;obtain⟨o',h5,h6⟩:=hs b _ Z;have h7:o' = .map es clock:=h6;subst h7;obtain⟨q,hq,hd,hinj⟩:=hk;have V:a.eval i=kv k:=hi S a Q;obtain⟨_,_,_,h8⟩:=sw hd hinj (k:=k) 0 (QL (w:=w) h4);rcases h8 with⟨g1,g2⟩|⟨y,o,e,j,g1,g2,g3,g4,g5⟩
 ·refine⟨.nilFunc,by simp [execOp,D,V,mZ hm hq (hd k) h5 hz g2],?_⟩;rw [g1];rfl
 ·refine⟨e.val,by simp [execOp,D,V,mZ hm hq (hd k) h5 hz g4],?_⟩;rw [g1];exact g3.2
def hFo{o:Option φ}(h:aG N G x (tFo P args res (o.map F))):aG N G x (tFn P args res (fun y=>(o.bind fun f=>F f y))):=fun S a Q=>by
 have:=h S a Q
 cases o with
 |none=>exact Xh
 |some f=>exact this.2
end
def rPt{α:Type}(r:Rp α):Rp α where
 sz:=1
 agg:=false
 rc:=fun S cs x=> ∃v,cs=[v]/\(aY r x).p S v
 mono:=fun h ⟨v,e,k⟩=>⟨v,e,(aY r _).mono h k⟩
 len:=fun⟨_,e,_⟩=>by rw [e];rfl
 one:=fun⟨v,e,b,off,c,U,fr,h,_⟩ c' hc=>by rw [e]at hc;simp at hc;subst hc;rw [h];rfl
 sc:=fun _=>rfl
def Xg{x:α}:(tD (rPt r) x).p S v↔(aY r x).p S v:=by
 constructor
 ·rintro⟨cs,rfl,w,rfl,h⟩;exact h
 ·intro h;exact⟨[v],rfl,v,rfl,h⟩
def Us{α:Type}(r:Rp α):Rp (Option α) where
 sz:=1
 agg:=false
 rc:=fun S cs o=> ∃v,cs=[v]/\match o with|none=>v= .pointer none|some x=>(aY r x).p S v
 mono:=fun{S S' cs o} h ⟨v,e,k⟩=>⟨v,e,by cases o with|none=>exact k|some x=>exact(aY r x).mono h k⟩
 len:=fun⟨_,e,_⟩=>by rw [e];rfl
 one:=fun{S cs o} ⟨v,e,k⟩ c' hc=>by
  rw [e]at hc;simp at hc;subst hc
  cases o with
  |none=>rw [show c' = .pointer none from k];rfl
  |some x=>obtain⟨b,off,c,U,fr,h,_⟩:=k;rw [h];rfl
 sc:=fun _=>rfl
def TD:aG N G (.const (.pointer none)) (tD (Us r) none):=fun _ _ _=>⟨[.pointer none],rfl,_,rfl,rfl⟩
def CY{x:α}:(tD (Us r) (some x)).p S v↔(aY r x).p S v:=by
 constructor
 ·rintro⟨cs,rfl,w,rfl,h⟩;exact h
 ·intro h;exact⟨[v],rfl,v,rfl,h⟩
def aeX{x:α}{u:Option α}(h:aG N G o (tD (Us r) u))(e:u=some x):aG N G o (aY r x):=fun S a Q=>by
 subst e;exact CY.1 (h S a Q)
def acS{rd:Rp β}{x:α}{y:β}(h:(bx r T b x).p w S)(hs:kQ w S)(cv: ∀cs,r.rc S cs x->rd.rc S cs y): ∃S1,SH.le S S1/\kQ w S1/\(aY rd y).p S1 (an b 0):=by
 obtain⟨hn,c,V,Z⟩:=h;have hle:SH.le S (S.set b (.cells c T (0,0))):=yx fun q hq=>(by rw [hn]at hq;cases hq);have C_:kQ w (S.set b (.cells c T (0,0))):=hs.set V (wy _) fun q hq=>by rw [hn]at hq;cases hq
 have h4:=cv _ Z;have hl:c.toList.length=rd.sz:=rd.len h4;refine⟨_,hle,C_,b,0,c,T,(0,0),rfl,pE _ _ _,?_⟩;rw [vj,s8 (by omega)];exact rd.mono hle h4
variable{el:TypeId}
section
def Hx{f:FuncId}{xs:List Operand}{t:Ty}{rd:Rp β}{x:α}{y:β}(hm:bx r T b x∈O)(hc:af E.P f=true)(hs:cN E.P f ts t)(cv: ∀w S cs,dR E.base E.B w S O->r.rc S cs x->rd.rc S cs y)(I: ∀(S S1:SH) (a:Act),cH E.N S a G->SH.le S S1->(aY rd y).p S1 (an b 0)->yw S1 ts (xs.map a.eval))(htf: ∀(S S' :SH) (v:Value),t.p S v->t.p S' v):
  ck E O G ⟨dst,.call ⟨.value (.func f),xs.toArray,ats⟩,ty,pos,after,g⟩ t:=fun a w S hS hO hF=>by
 have hr:(execOp a.eval ⟨dst,.call ⟨.value (.func f),xs.toArray,ats⟩,ty,pos,after,g⟩).run E.P w= .ok (.enter f (xs.map a.eval).toArray) w:=by
  simp [execOp,resolve,Act.eval,Deferred.ofValue,invoke,gT hc]
 refine⟨fun c h=>(by cases h),?_⟩;rw [hr];obtain⟨S1,k1,k2,k3⟩:=acS (dR.mem hO _ hm).1 hS (fun cs h=>cv w S cs hO h);exact(hs w S1 _ k2 (I S S1 a hF k1 k3)).mono fun e w' ⟨v,S',he,D,V,Z⟩=>⟨v,he,v,S,rfl,
  ⟨D.os,D.tape,D.output,D.drawn,D.size,D.heap,SH.le_refl _,fun _ _ _=>rfl⟩,hS.same fun b o k=>D.heap b (hS.lt k) (fun K=>K),htf S' S v Z⟩
def Q8{G:oz}{x:α}(h:aG N G o (tV (an b 0)))(Q:cH N S a G)(hk:(aY r x).p S1 (an b 0)):(aY r x).p S1 (a.eval o):=by
 rw [show a.eval o=an b 0 from h S a Q];exact hk
def sb(t:Nat->Ty):Ty where
 p:=fun S v=> ∀b,(t b).p S v
 mono:=fun h k b=>(t b).mono h (k b)
def HG{t:Nat->Ty}(h: ∀b,aG N G o (t b)):aG N G o (sb t):=fun S a Q b=>h b S a Q
def acV{t:Nat->Ty}(b:Nat)(h:aG N G o (sb t)):aG N G o (t b):=fun S a Q=>h S a Q b
def wn{γ:Type}{r' :Rp γ}{hs hs' :HL}{off:Nat}{x:α}{x' :γ}{y:β}(h:rP r r' off q x y x')(hk:HOK hs off q.sz none hs')(hoff:Nat.ble (off+q.sz) r.sz=true):rP (rH r hs) (rH r' hs') off q x y x' :=fun S cs ds D V=>by
 refine⟨h S cs ds D.1 V,fun p hp=>?_⟩;rcases hk.all p hp with⟨e,_⟩|⟨g1,g2⟩
 ·cases e
 ·have hl:=r.len D.1;rw [xy (q.len V) (by have:=rx hoff;omega) g2];exact D.2 _ (ym g1)
def YP{γ:Type}{r' :Rp γ}{x:α}{x' :γ}{hs:HL}(h:(rH r hs).rc S cs x)(k:r.rc S cs x->r'.rc S cs x'):(rH r' hs).rc S cs x' :=⟨k h.1,h.2⟩
def Rg{q:Rp α}(hq:q.sz=1){m:Nat}(h:vq q S cs xs)(hm:m<=xs.length):vq q S (cs.take m) (xs.take m)/\vq q S (cs.drop m) (xs.drop m):=by
 have:=sL (xs:=xs.take m) (ys:=xs.drop m) (by rw [vn];exact h)
 rwa [Br,Bq hm,hq,Nat.mul_one]at this
def AN{α:Type}(xs ys:List α):List α:=ys.take xs.length++xs.drop (min ys.length xs.length)
def Lv:(AN xs ys).length=xs.length:=by
 unfold AN;simp;omega
def MP{p:Operand}(hu:E.P.underlying T=some (.array n el))(hs:((E.P.info? el).map (·.size)).isSome=true)(hp:aG E.N G p (tV (an b 0))):
  ck E O G ⟨dst,.slice T p none none none,ty,pos,after,g⟩ (tV (.slice (some ⟨b,0,none⟩) n n)):= .of_pure fun a w S _ _ Q=>by
 have D:a.eval p=an b 0:=hp S a Q
 cases hq:E.P.info? el with
 |none=>simp [hq]at hs
 |some i=>exact⟨_,by simp [execOp,D,an,Instr.sliceAt,lc hu,Instr.sureAddr,Instr.sliceBounds,sizeOf,typeInfo,hq,Result.andThen];intro _;rfl,rfl⟩
end
variable{lo:Int}
section
variable{c:Code}
def iE{y:α}{u:Option α}(I:aG E.N G x (tD (Us r) u))(e:u=some y):ck E O G ⟨dst,.nilCheck x,ty,pos,after,g⟩ (aY r y):=Di (aeX I e)
def St.ptAt{x:α}{k:Nat}(h:St E O G a w S)(hk:look G k=some (aY r x)):St E O ((k,tD (Us r) (some x))::G) a w S:=h.cons (CY.2 (h.facts.h_ k _ hk))
def Y7{x:α}(k:Nat)(hk:look G k=some (aY r x))(h:RG E ops hf rest O ((k,tD (Us r) (some x))::G)):RG E ops hf rest O G:=fun a w S st=>h a w S (st.ptAt hk)
def Zf{e:Exit}{x:α}(k:Nat)(hk:look G k=some (aY r x))(h:AT E hf e O ((k,tD (Us r) (some x))::G)):AT E hf e O G:=fun a w S st=>h a w S (st.ptAt hk)
def TQ{q:Rp α}{y:Operand}{dT sT:TypeId}(hq:q.sz=1)(hu:E.P.underlying dT=some (.slice el))(hs:(E.P.info? el).map (·.size)=some 1)(I:aG E.N G x (tV (.slice (some ⟨b,0,none⟩) n n)))(hy: ∀a w S,kQ w S->dR E.base E.B w S (bx (sj q n) T b xs::O)->cH E.N S a G-> ∃S1,kQ w S1/\(tD (eW q) ys).p S1 (a.eval y)/\ ∀cs zs,vq q S1 cs zs->vq q S cs (zs:List α)):
  EffOK E (bx (sj q n) T b xs::O) G ⟨some d,.call ⟨.builtin .copy,#[x,y],#[dT,sT]⟩,ty,pos,after,g⟩ (fun _=>bx (sj q n) T b (AN xs ys)::O) (fun _=>tD (rI .i64) ((min ys.length n:Nat):Int)):=fun a w S hs0 ho Q K=>by
 have D:a.eval x= .slice (some ⟨b,0,none⟩) n n:=I S a Q;obtain⟨S1,hS1,hy1,hback⟩:=hy a w S hs0 ho Q;obtain⟨ad,cap,V,_,_,Z⟩:=oV.1 hy1;obtain⟨⟨G_,cur,h5,h6,h7⟩,_⟩:=ho.1;have hcl:cur.toList.length=n:=by rw [pM h7,hq,h6,Nat.mul_one]
 have hm:min ys.length n<=ys.length:=Nat.min_le_left _ _;obtain⟨cs,hcs,u_,hlen⟩: ∃cs,vq q S cs (ys.take (min ys.length n))/\(Builtin.copy_ #[dT,sT] ty #[.slice (some ⟨b,0,none⟩) n n,a.eval y]).run E.P w= .ok (goInt cs.length) (w.setRow b (cs++cur.toList.drop cs.length).toArray)/\cs.length=min ys.length n:=by
  rw [V];rcases Z with rfl|⟨b',off,c,T',fr,rfl,e2,e3⟩
  ·refine⟨[],by simp [vq],?_,by simp⟩
   cases hel:E.P.info? el with
   |none=>simp [hel]at hs
   |some i=>
    have hi:i.size=1:=by simpa [hel] using hs
    have hself:w.setRow b (([]:List Value)++cur.toList.drop ([]:List Value).length).toArray=w:=by simpa using setRow_self w b cur T (0,0) h5
    rw [hself]
    cases ad with
    |none=>simp [Builtin.copy_,lc hu,Builtin.lenOf,Builtin.firstCells,sizeOf,typeInfo,hel,hi,storeCells]
    |some p=>
     have hl:=run_loadCells_list (P:=E.P) w p [] (fun j v hv=>by simp at hv);simp only [tZ]at hl;simp [Builtin.copy_,lc hu,Builtin.lenOf,Builtin.firstCells,sizeOf,typeInfo,hel,hi,storeCells,hl]
  ·obtain⟨c',h8,h9⟩:=hS1.part e2 (pM e3);obtain⟨d1,d2⟩:=Rg hq e3 hm;rw [B5,hq,Nat.mul_one,Bq hm]at d1;have hl:((c.toList.drop off).take (min ys.length n)).length=min ys.length n:=by
    rw [pM d1,hq,Nat.mul_one,Br,Bq hm]
   have hcs:cur.size=n:=by simpa using hcl
   refine⟨_,hback _ _ d1,?_,hl⟩;have:=run_copy_row (P:=E.P) w dT sT ty el b 0 n n ⟨b',off,none⟩ ys.length cap cur T ((c.toList.drop off).take (min ys.length n)) hu hs h5 hl (fun j v hv=>?_) (by rw [hl];omega) (C9 d1)
   ·simpa using this
   ·have hj:j<min ys.length n:=by rw [<-hl];exact(oC.1 hv).1
    have hcell:w.cell? ⟨b',off+j,none⟩=c'[off+j]? :=Bk h8 _;rw [kL];show w.cell? ⟨b',off+j,none⟩=_;rw [hcell];have h10:((c'.toList.drop off).take (ys.length*q.sz))[j]? =((c.toList.drop off).take (ys.length*q.sz))[j]? :=by rw [h9]
    rw [zT (by rw [hq];omega),zT (by rw [hq];omega),xT,xT]at h10;rw [zT hj,xT]at hv;rw [<-hv,<-QR,h10]
 have hx' :(execOp a.eval ⟨some d,.call ⟨.builtin .copy,#[x,y],#[dT,sT]⟩,ty,pos,after,g⟩).run E.P w= .ok (.value (goInt cs.length)) (w.setRow b (cs++cur.toList.drop cs.length).toArray):=by
  simp [execOp,resolve,D,invoke,builtin,u_]
 refine⟨fun c h=>(by cases h),?_⟩;rw [hx'];have hle:min ys.length n<=xs.length:=by rw [h6];exact Nat.min_le_right _ _
 obtain⟨_,d4⟩:=Rg hq h7 hle;have hnew:(sj q n).rc S (cs++cur.toList.drop cs.length) (AN xs ys):=by
  refine⟨by rw [Lv];exact h6,?_⟩;unfold AN;rw [h6,hlen];have e1:ys.take n=ys.take (min ys.length n):=by
   rw [List.take_eq_take_iff];omega
  rw [e1];exact wu hcs d4
 obtain⟨g1,g2,g3⟩:=q8 (O:=O) hs0 (w' :=w.setRow b (cs++cur.toList.drop cs.length).toArray) (bx (sj q n) T b xs) (bx (sj q n) T b (AN xs ys)) ho (fun _=>wh) (fun _=>wh) ⟨rfl,rfl,rfl,by simp [World.setRow],eX _⟩ (fun k hk=>setRow_other w b k _ hk) ⟨G_,_,setRow_heap w b cur _ T _ h5,by simpa using hnew⟩ G_;refine⟨_,S,rs,rfl,g1.more fun k hk=>⟨_,pz ..,hk⟩,g2,g3,?_⟩;rw [hlen];exact gm.2 rfl
def Sy(hs:fz xs lo hi=some ys)(h:AP mm r U l cap xs w S)(hS:kQ w S): ∃S1,kQ w S1/\(tD (eW r) ys).p S1 (o4 r.sz l cap lo.toNat ys.length):=by
 obtain⟨S1,_,k2,hd⟩:=aeV h hS;refine⟨S1,k2,?_⟩;obtain⟨l',m,rfl,rfl,h7,h8,rfl⟩:=iQ hs;obtain⟨ad,c,D,V,Z,h4⟩:=oV.1 hd;have hlen:((xs.take m).drop l').length=m-l' :=by simp;omega
 cases l with
 |none=>
  obtain⟨cells,g1,_⟩:=h;have I:xs=[]:=uS g1.1;subst I;have e:((([]:List α).take m).drop l')=[]:=by simp
  rw [e];exact Gk
 |some b=>
  have e1:Value.slice (some ⟨b,0,none⟩) xs.length cap= .slice ad xs.length c:=D;injection e1 with e2 _ e3;subst e2;subst e3;have h5:=Cf h4 h7 h8 V;refine oV.2 ⟨_,cap-l',?_,by omega,by omega,h5⟩;unfold o4;simp only [yJ,hlen,GG,kL,oZ];split<;>rfl
def Lu{xs ys zs:List Int}{y:Operand}{dT sT:TypeId}(hm:nU mm (rI k) U l cap zs∈bx (sj (rI k) n) T b xs::O)(hsl:fz zs lo hi=some ys)(hu:E.P.underlying dT=some (.slice el))(hs:(E.P.info? el).map (·.size)=some 1)(I:aG E.N G x (tV (.slice (some ⟨b,0,none⟩) n n)))(hy:aG E.N G y (tV (o4 1 l cap lo.toNat ys.length))):
  EffOK E (bx (sj (rI k) n) T b xs::O) G ⟨some d,.call ⟨.builtin .copy,#[x,y],#[dT,sT]⟩,ty,pos,after,g⟩ (fun _=>bx (sj (rI k) n) T b (AN xs ys)::O) (fun _=>tD (rI .i64) ((min ys.length n:Nat):Int)):=
 TQ rfl hu hs I fun a w S hs0 ho Q=>by
  obtain⟨S1,D,V⟩:=Sy hsl (dR.mem ho _ hm).1 hs0;refine⟨S1,D,?_,fun cs zs h=>by rw [Da h];exact(Da h)▸MC (fun h=>h) h⟩;rw [show a.eval y=o4 1 l cap lo.toNat ys.length from hy S a Q];exact V
def UQ{α:Type}(r:Rp α)(y:α)(b:Nat)(t:Ty):Ty where
 p:=fun S v=> ∀S1,SH.le S S1->(aY r y).p S1 (an b 0)->t.p S1 v
 mono:=fun h k S1 D=>k S1 (SH.le_trans h D)
def Xa{y:α}{t:Ty}(h:aG N G x (UQ r y b t))(Q:cH N S a G)(hle:SH.le S S1)(hk:(aY r y).p S1 (an b 0)):t.p S1 (a.eval x):=h S a Q S1 hle hk
def KN{γ:Type}{r:Rp γ}{z:γ}{L_:List Operand}{cts:List Ty}(hc:af E.P E_=true)(hcap: ∀(S S1:SH) (a:Act),cH E.N S a G->SH.le S S1->(aY r z).p S1 (an b 0)->yw S1 cts (L_.map a.eval))(hs: ∀x y,f x=some y->cN E.P E_ (args x++cts) (res y)):ck E O G ⟨dst,.makeFunc (.func E_) #[] L_.toArray,ty,pos,after,g⟩ (UQ r z b (iM E.P args res f)):=
 .of_pure fun a w S _ _ Q=>by
  refine⟨.func (.func E_) #[] (L_.map a.eval).toArray,by simp [execOp,Instr.makeFunc],fun S1 D hk=>⟨E_,_,rfl,hc,fun x y h w' S' vs hle C_ hv=>?_⟩⟩;have hcv:=(hcap S S1 a Q D hk).mono hle;simpa using hs x y h w' S' _ C_ (hv.append hcv)
def Qw{y:α}(h:aG N G x (aY (rT (tV (an b 0))) ()))(Q:cH N S a G)(hle:SH.le S S1)(hk:(aY r y).p S1 (an b 0)):(aY (rPt r) y).p S1 (a.eval x):=by
 obtain⟨b',off,c,E',fr,D,V,v,Z,_,h4⟩:=(aY (rT (tV (an b 0))) ()).mono hle (h S a Q);have h4' :v=an b 0:=h4;subst h4';exact⟨b',off,c,E',fr,D,V,_,Z,hk⟩
def Q4{sz:Nat}(ti:TI P T sz bytes agg z):(P.info? T).map (·.size)=some sz:=by
 obtain⟨i,_,hi,hs,_⟩:=ti.get;simp [hi,hs]
def Xc{sz:Nat}(ti:TI P T sz bytes agg z):((P.info? T).map (·.size)).isSome=true:=by rw [Q4 ti];rfl
def Xq{α:Type}:Rp α where
 sz:=1
 agg:=false
 rc:=fun _ cs _=> ∃v,cs=[v]/\v.oneCell' =true
 mono:=fun _ h=>h
 len:=fun⟨v,h,_⟩=>by rw [h];rfl
 one:=fun⟨v,h,k⟩ c hc=>by rw [h]at hc;simp at hc;subst hc;exact k
 sc:=fun _=>rfl
def aeY{u:Value}{y:α}(h:aG N G x (tV u))(ho:u.oneCell' =true):aG N G x (tD Xq y):=fun S a Q=>by
 have D:a.eval x=u:=h S a Q;rw [D];exact⟨[u],rfl,u,rfl,ho⟩
def Vb{c:Nat}:(ak l c n).oneCell' =true:=by cases l<;>rfl
def QK{j:Int}{o:Oper}{post:OI->List OE}{t:OI->Ty}(h:fz xs 0 j=some ys)(k:EffOK E (fa r U l cap ys::O) G o post t):EffOK E (fa r U l cap xs::O) G o post t:=fun a w S hs ho Q K=>by
 have D:dR E.base E.B w S (fa r U l cap ys::O):=⟨⟨R6 h ho.1.1,ho.1.2⟩,ho.2.1,ho.2.2⟩;refine qk (fun a' w' ⟨v,S',x,g1,g2,g3,g4,g5⟩=>⟨v,S',x,g1,g2.more fun b ⟨f,Q,K⟩=>?_,g3,g4,g5⟩) (k a w S hs D Q K);rcases iI.1 Q with rfl|Q
 ·exact⟨_,pz ..,K⟩
 ·exact⟨f,pA _ Q,K⟩
def LI(hm:nU mm r T l cap xs∈O)(hs:fz xs lo hi=some ys)(h:(l=none->ys.length=0)/\ys.length<=maxLen->CG E hf c O G):CG E hf c O G:=fun a w S st=>by
 refine h ?_ a w S st;obtain⟨cells,D,_⟩:=(st.own.mem _ hm).1;obtain⟨l',m,_,_,_,h8,rfl⟩:=iQ hs;have hlen:((xs.take m).drop l').length<=xs.length:=by simp;omega
 cases l with
 |none=>have:=D.1;exact⟨fun _=>by omega,by omega⟩
 |some b=>obtain⟨cur,_,g2,g3,_⟩:=D;exact⟨fun h=>(by cases h),by omega⟩
def hBc{b:Bool}:aG N G (.const (.bool b)) (tD rB b):=hB
def N9(b:Bool){l:List Oper}(D:b=true->RG E ops hf l O G)(V:b=false->RG E ops hf l O G):RG E ops hf l O G:=by
 cases b with
 |true=>exact D rfl
 |false=>exact V rfl
def DW{d:Option Tmp}{j:Nat}{pol b:Bool}(hj:(ops[j]?).bind (·.dst)=some gs)(hgs:Nat.blt gs E.N.n=true)(K:look G gs=some (tD rB b))(e:b=pol)(k:RG E ops hf (⟨d,op,ty,pos,after,none⟩::rest) O G):
  RG E ops hf (⟨d,op,ty,pos,after,some (j,pol)⟩::rest) O G:=fun a w S st=>by
 have hgs' :gs<a.tmps.size:=by rw [st.facts.size];simpa [xS] using hgs
 have hw:=yP (o:=⟨d,op,ty,pos,after,some (j,pol)⟩) rfl hj hgs' (sQ K S a st.facts);have D:=k a w S st;unfold wpListIn at D ⊢;rw [hw,e];rw [bq (show Region.wanted ⟨d,op,ty,pos,after,none⟩ (yielded ops a.tmps)=true from rfl)]at D;rw [bq (show(true&&(pol==pol))=true from by simp)];exact D
def sD{j:Nat}{pol b:Bool}(hj:(ops[j]?).bind (·.dst)=some gs)(hgs:Nat.blt gs E.N.n=true)(K:look G gs=some (tD rB b))(e:b= !pol)(hd:Nat.blt d E.N.n=true)(k:RG E ops hf rest O ((d,CZ)::G)):
  RG E ops hf (⟨some d,op,ty,pos,after,some (j,pol)⟩::rest) O G:=fun a w S st=>by
 have hgs' :gs<a.tmps.size:=by rw [st.facts.size];simpa [xS] using hgs
 have hw:=yP (o:=⟨some d,op,ty,pos,after,some (j,pol)⟩) rfl hj hgs' (sQ K S a st.facts);refine wpListIn_step fun hb hK=>?_;rw [hw,e,aZ (by cases pol<;>simp)];exact⟨fun _ _=>trivial,hK _ _ (k _ _ S (st.step (ji.refl _ _ _) st.sat hd trivial))⟩
def EB{c y:Operand}{b:Bool}{t:Ty}(hc:aG E.N G c (tD rB b))(e:b=true)(I:aG E.N G x t):ck E O G ⟨dst,.pick c x y,ty,pos,after,g⟩ t:=A9 hc (fun _=>I) (fun h=>by rw [e]at h;cases h)
def Jp{c y:Operand}{b:Bool}{t:Ty}(hc:aG E.N G c (tD rB b))(e:b=false)(hy:aG E.N G y t):ck E O G ⟨dst,.pick c x y,ty,pos,after,g⟩ t:=A9 hc (fun h=>by rw [e]at h;cases h) (fun _=>hy)
end
def Ep(P:Program)(fn:Func)(h' i j k:Nat)(h:fn.results= #[.tmp h',.tmp i,.tmp j,.tmp k])(tmps:Array Value)(w:World):(results fn tmps).run P w= .ok (.tuple #[tmps.getD h' undef,tmps.getD i undef,tmps.getD j undef,tmps.getD k undef]) w:=by
 simp [results,h]
def Bn{N:Nat}{w0:World}{S0:SH}{m j k:Nat}{s t v:Ty}(hr:fn.results= #[.tmp m,.tmp i,.tmp j,.tmp k])(hm:look G m=some s)(hi:look G i=some t)(hj:look G j=some u)(hk:look G k=some v):
  AT ⟨P,⟨N,[]⟩,B,w0,S0,none⟩ (bodyPost P fn (IE ⟨P,⟨N,[]⟩,B,w0,S0,none⟩ (tT [s,t,u,v]))) .ret O G:=fun _ _ S st=>
 ⟨st.facts.defers,_,Ep P fn m i j k hr _ _,_,S,rfl,st.ext,st.sat,[_,_,_,_],rfl,st.facts.h_ m s hm,st.facts.h_ i t hi,st.facts.h_ j u hj,st.facts.h_ k v hk,trivial⟩
structure WA{κ:Type} [DecidableEq κ](P:Program)(kt:TypeId)(kv:κ->Value):Prop where
 chk: ∀e w k,(Instr.checkKey e 10000 kt (kv k)).run P w= .ok () w
 eql: ∀w a b,(Op.equal kt (kv a) (kv b)).run P w= .ok (decide (a=b)) w
 wide:(match P.underlying kt with|some (.array _ _)|some (.struct _)=>true|_=>false)=true
 same: ∀k,Instr.sameBits 10000 (kv k) (kv k)=true
 inj: ∀a b,kv a=kv b->a=b
def Tq(p:Int×Int):Value:= .agg #[.int .i64 p.1,.int .i64 p.2]
def k2(l:List Int):Int×Int:=(l.getD 0 0,l.getD 1 0)
def zf{kt el sz:Nat}(h:P.underlying kt=some (.array 2 el))(he:P.underlying el=some (.int .i64))(ti:TI P el sz bytes agg z)(k_:Nat.beq sz 1=true)(hq:Ux P kt (sj (rI .i64) 2)):WA P kt Tq where
 chk:=fun e w k=>by
  obtain⟨i,zv,hi,hs,_⟩:=ti.get;have D:sz=1:=rm k_;have ha:(isAgg el).run P w= .ok false w:=by
   simp [isAgg,lc he,Result.andThen]
  have Z: ∀(j:Nat) (x:Int) (cs:Array Value),cs[j]? =some (.int .i64 x)->(part el cs (j*i.size)).run P w= .ok (.int .i64 x) w:=fun j x cs hj=>by
   simp [part,ha,Result.andThen,hs,D,hj]
  have h4: ∀x:Int,(Instr.checkKey e 9999 el (.int .i64 x)).run P w= .ok () w:=fun x=>by
   show(Instr.checkKey e (9998+1) el (.int .i64 x)).run P w= .ok () w;unfold Instr.checkKey;simp only [uc,lc he,vm];rfl
  have e1:=Z 0 k.1 #[.int .i64 k.1,.int .i64 k.2] rfl;have e2:=Z 1 k.2 #[.int .i64 k.1,.int .i64 k.2] rfl;show(Instr.checkKey e (9999+1) kt (Tq k)).run P w= .ok () w;unfold Instr.checkKey;simp only [Tq,uc,lc h,vm,Std.Legacy.Range.forIn_eq_forIn_range',Std.Legacy.Range.size,Nat.sub_zero,Nat.add_sub_cancel,Nat.div_one,List.range'_succ,List.range'_zero,List.forIn_cons,List.forIn_nil,sizeOf,typeInfo,hi,GE,Nat.zero_mul,oZ,Nat.one_mul];simp only [Nat.zero_mul,Nat.one_mul]at e1 e2;simp [e1,e2,h4,Result.andThen,hi]
 eql:=fun w a b=>by
  have:=hq.run (fun _=>none) [.int .i64 a.1,.int .i64 a.2] [.int .i64 b.1,.int .i64 b.2] [a.1,a.2] [b.1,b.2] 9980 w ⟨rfl,[_],[_],rfl,rfl,[_],[],rfl,rfl,rfl⟩ ⟨rfl,[_],[_],rfl,rfl,[_],[],rfl,rfl,rfl⟩;have e1:decide (([a.1,a.2]:List Int)=[b.1,b.2])=decide (a=b):=by
   obtain⟨a1,a2⟩:=a;obtain⟨b1,b2⟩:=b;simp
  rw [e1]at this;show(Op.equalIn (9980+20) kt (Tq a) (Tq b)).run P w=_;exact this
 wide:=by rw [h]
 same:=fun k=>by
  show Instr.sameBits (9999+1) (Tq k) (Tq k)=true;unfold Instr.sameBits Tq;simp only [LQ,List.zip_nil_left,yF,List.all_nil];unfold Instr.sameBits;simp
 inj:=fun a b h=>by
  obtain⟨a1,a2⟩:=a;obtain⟨b1,b2⟩:=b;simpa [Tq] using h
section
variable [DecidableEq κ]{k:κ}
def PW{w:World}{S:SH}{k:κ}(hk:WA P kt kv): ∀{es:List MapEntry} {m:List (κ×β)} (i:Nat),wN γ kv S es m->
  ∃u,(Instr.findAsking kt (kv k) es i).run P w= .ok u w/\((u=none/\(∀x∈es,x.key≠kv k)/\jC m k=none)\/ ∃(j:Nat) (e:MapEntry) (y:β),u=some (i+j,e.val)/\es[j]? =some e/\e.key=kv k/\jC m k=some y/\(γ y).p S e.val)
 |[],[],i,_=>⟨none,by simp [Instr.findAsking],.inl ⟨rfl,fun x I=>(by cases I),rfl⟩⟩
 |e::es,q::m,i,⟨D,V,Z,h4⟩=>by
  by_cases hq:k=q.1
  ·subst hq;refine⟨some (i,e.val),?_,.inr ⟨0,e,q.2,rfl,rfl,D,by unfold jC;rw [bq rfl],V⟩⟩;unfold Instr.findAsking;simp [D,hk.eql,Result.andThen]
  ·obtain⟨u,g1,g2⟩:=PW hk (k:=k) (w:=w) (i+1) h4;refine⟨u,?_,?_⟩
   ·unfold Instr.findAsking;simp [D,hk.eql,hq,Result.andThen,g1]
   ·have hm:jC (q::m) k=jC m k:=by conv=>lhs;unfold jC;rw [aZ (fun e=>hq e.symm)]
    rw [hm];rcases g2 with⟨e1,e2,e3⟩|⟨j,e',y,e1,e2,e3,e4,e5⟩
    ·refine .inl ⟨e1,fun x I=>?_,e3⟩;rcases iI.1 I with rfl|I
     ·rw [D];exact fun e=>hq (hk.inj _ _ e).symm
     ·exact e2 x I
    ·exact .inr ⟨j+1,e',y,by rw [e1];congr 2;omega,by simpa using e2,e3,e4,e5⟩
def Rw{q k:κ}{y:β}(hk:q≠k): ∀(m:List (κ×β)),(∀p∈m,p.1≠q)-> ∀p∈dC m k y,p.1≠q:=by
 intro m
 induction m with
 |nil=>intro _ p hp;rw [np.1 hp];exact fun e=>hk e.symm
 |cons p0 m ih=>
  intro hm p hp;unfold dC at hp;split at hp
  ·rcases iI.1 hp with rfl|hp
   ·exact fun e=>hk e.symm
   ·exact hm p (pA _ hp)
  ·rcases iI.1 hp with rfl|hp
   ·exact hm _ (pz ..)
   ·exact ih (fun p hp=>hm p (pA _ hp)) p hp
def HU(hinj: ∀a b,kv a=kv b->a=b){y:β}{v:Value}{born:Nat}(hv:(γ y).p S v): ∀{es:List MapEntry} {m:List (κ×β)},wN γ kv S es m->(∀x∈es,x.key≠kv k)->wN γ kv S (es++[⟨kv k,v,born⟩]) (dC m k y)
 |[],[],_,_=>⟨rfl,hv,fun _ h=>(by cases h),trivial⟩
 |e::es,q::m,⟨D,V,Z,h4⟩,hn=>by
  have hq:q.1≠k:=fun e' =>hn e (pz ..) (by rw [D,e']);have hm:dC (q::m) k y=q::dC m k y:=by conv=>lhs;unfold dC;rw [aZ hq]
  rw [hm];exact⟨D,V,Rw hq m Z,HU hinj hv h4 fun x I=>hn x (pA _ I)⟩
def JP(hinj: ∀a b,kv a=kv b->a=b){y:β}{v:Value}(hv:(γ y).p S v): ∀{es:List MapEntry} {m:List (κ×β)},wN γ kv S es m-> ∀j e,es[j]? =some e->e.key=kv k->wN γ kv S (es.modify j fun e=>{e with key:=kv k,val:=v}) (dC m k y)
 |[],[],_,j,e,he,_=>by cases he
 |e0::es,q::m,⟨D,V,Z,h4⟩,j,e,he,hek=>by
  cases j with
  |zero=>
   have he' :e0=e:=qr he;subst he';have hq:q.1=k:=hinj _ _ (by rw [<-D,hek]);have hm:dC (q::m) k y=(k,y)::m:=by conv=>lhs;unfold dC;rw [bq hq]
   rw [hm,List.modify_zero_cons];exact⟨rfl,hv,fun p hp=>by rw [<-hq];exact Z p hp,h4⟩
  |succ j=>
   have he' :es[j]? =some e:=by simpa using he
   obtain⟨y',hy'⟩: ∃q' ∈m,q'.1=k:=by
    have hmem: ∀{es:List MapEntry} {m:List (κ×β)},wN γ kv S es m-> ∀(j:Nat) (e:MapEntry),es[j]? =some e->e.key=kv k-> ∃q' ∈m,q'.1=k:=by
     intro es
     induction es with
     |nil=>intro m _ j e he _;simp at he
     |cons e1 es ih=>
      intro m hm j e he hek
      cases m with
      |nil=>exact hm.elim
      |cons q1 m=>
       obtain⟨g1,_,_,g4⟩:=hm
       cases j with
       |zero=>
        have e2:e1=e:=qr he;subst e2;exact⟨q1,pz ..,hinj _ _ (by rw [<-g1,hek])⟩
       |succ j=>
        obtain⟨q',a1,a2⟩:=ih g4 j e (by simpa using he) hek;exact⟨q',pA _ a1,a2⟩
    exact hmem h4 j e he' hek
   have hq:q.1≠k:=fun e' =>Z y' hy'.1 (by rw [hy'.2,e']);have hm:dC (q::m) k y=q::dC m k y:=by conv=>lhs;unfold dC;rw [aZ hq]
   rw [hm,Fs];exact⟨D,V,Rw hq m Z,JP hinj hv h4 j e he' hek⟩
def Nc(γ:β->Ty)(kv:κ->Value)(b:Nat)(m:List (κ×β)):OE where
 fp:=fun j=>j=b
 p:=fun w S=>S b=none/\ ∃es clock,w.heap[b]? =some (.map es clock)/\wN γ kv S es.toList m
 here:=by
  intro w S ⟨_,es,clock,Z,_⟩ j hj;subst hj;exact(s9.1 Z).1
 kept:=by
  intro C w w' S S' ⟨D,es,clock,Z,h4⟩ k hC;have o_:=(s9.1 Z).1;exact⟨by rw [k.old b o_ (hC b rfl)];exact D,es,clock,by rw [k.heap b o_ (hC b rfl)];exact Z,zr k.keep h4⟩
end
section
variable [DecidableEq κ]{k:κ}{i v:Operand}{dst:Option Nat}
def Vv{x:Operand}{l:List Int}(h:aG N G x (tD (sj (rI .i64) 2) l)):B3 N G x (Tq (k2 l)):=fun S a Q=>by
 obtain⟨cs,e,D,V⟩:=h S a Q;rw [e]
 match l,D,V with
 |[p,q],_,V=>
  have:=Da V;rw [this];rfl
def Oe(γ:β->Ty)(kv:κ->Value)(hd:Nat.blt d E.N.n=true)(k: ∀b,RG E ops hf rest (Nc γ kv b []::O) ((d,tV (ni b))::G)):
  RG E ops hf (⟨some d,.makeMap t none,ty,pos,after,none⟩::rest) O G:= .of rfl fun a w S st=>by
 obtain⟨he,hs',G_⟩:=gb (w:=w) (.map #[] 0) st.sat;have u_:(execOp a.eval ⟨some d,.makeMap t none,ty,pos,after,none⟩).run E.P w= .ok (.value (ni w.heap.size)) (w.alloc (.map #[] 0)):=by
  simp [execOp,Instr.makeMap,ni]
 refine⟨fun c h=>(by cases h),?_⟩;rw [u_];exact k w.heap.size _ _ S ⟨st.ext.step0 he,hs',rR st.own he ⟨G_,#[],0,xU w _,trivial⟩ (fun b K=>BD K.symm) st.H_,st.facts.put hd rfl⟩
def PD{z:β}{zv:Value}(hm:E.P.underlying t=some (.map kt et))(hk:WA E.P kt kv)(hz:ZV E.P et zv)(hzt: ∀S,(γ z).p S zv)(hmem:Nc γ kv b m∈O)(I:aG E.N G x (tV (ni b)))(hi:B3 E.N G i (kv k)):
  ck E O G ⟨dst,.lookup t x i false,ty,pos,after,g⟩ (γ ((jC m k).getD z)):= .of_pure fun a w S hs ho Q=>by
 obtain⟨⟨_,es,clock,Z,h4⟩,_⟩:=dR.mem ho _ hmem;have D:a.eval x=ni b:=I S a Q;have V:a.eval i=kv k:=hi S a Q;obtain⟨u,g1,g2⟩:=PW hk (k:=k) (w:=w) 0 h4;have hfk:(Instr.findKey kt (kv k) es.toList).run E.P w= .ok u w:=by rw [run_findKey_eq w hk.wide];exact g1
 rcases g2 with⟨rfl,_,g3⟩|⟨j,e,y,rfl,_,_,g3,g4⟩
 ·refine⟨zv,?_,by rw [g3];exact hzt S⟩;simp [execOp,D,V,Instr.lookup,ni,lc hm,E6 Z,hk.chk,hfk,hz.run,Result.andThen]
 ·refine⟨e.val,?_,by rw [g3];exact g4⟩;simp [execOp,D,V,Instr.lookup,ni,lc hm,E6 Z,hk.chk,hfk,Result.andThen]
def Y0{y:β}(hm:E.P.underlying t=some (.map kt et))(hk:WA E.P kt kv)(I:aG E.N G x (tV (ni b)))(hi:B3 E.N G i (kv k))(hv:aG E.N G v (γ y))
  (h:RG E ops hf rest (Nc γ kv b (dC m k y)::O) G):RG E ops hf (⟨none,.mapUpdate t x i v,ty,pos,after,none⟩::rest) (Nc γ kv b m::O) G:= .of rfl fun a w S st=>by
 have D:a.eval x=ni b:=I S a st.facts;have V:a.eval i=kv k:=hi S a st.facts;have Z:(γ y).p S (a.eval v):=hv S a st.facts;obtain⟨⟨G_,es,clock,h5,h6⟩,_⟩:=st.own.1;have o_:=(s9.1 h5).1;obtain⟨u,g1,g2⟩:=PW hk (k:=k) (w:=w) 0 h6;have hfk:(Instr.findKey kt (kv k) es.toList).run E.P w= .ok u w:=by rw [run_findKey_eq w hk.wide];exact g1
 obtain⟨X,u_,hX⟩: ∃X:Obj,(Instr.mapUpdate t (ni b) (kv k) (a.eval v)).run E.P w= .ok () {w with heap:=w.heap.setIfInBounds b X}/\ ∃es' cl',X= .map es' cl' /\wN γ kv S es'.toList (dC m k y):=by
  rcases g2 with⟨rfl,g3,g4⟩|⟨j,e,y',rfl,g3,g4,_,_⟩
  ·refine⟨.map (es.push ⟨kv k,a.eval v,clock⟩) (clock+1),?_,_,_,rfl,by rw [Array.toList_push];exact HU hk.inj Z h6 g3⟩;simp [Instr.mapUpdate,ni,lc hm,E6 h5,hk.chk,hfk,Result.andThen,QS _ h5]
  ·refine⟨.map (es.modify j fun e=>{e with key:=kv k,val:=a.eval v}) clock,?_,_,_,rfl,by rw [Array.toList_modify];exact JP hk.inj Z h6 j e g3 g4⟩;have hgd:((es[j]?).map (·.key)).getD (kv k)=kv k:=by
    rw [<-QR,g3];exact g4
   simp only [oZ]at hfk;simp [Instr.mapUpdate,ni,lc hm,E6 h5,hk.chk,hfk,Result.andThen,hgd,Instr.keyThatStays,hk.same,QS _ h5]
 have hrun' :(execOp a.eval ⟨none,.mapUpdate t x i v,ty,pos,after,none⟩).run E.P w= .ok .skip {w with heap:=w.heap.setIfInBounds b X}:=by simp [execOp,D,V,u_]
 obtain⟨es',cl',rfl,h7⟩:=hX;refine⟨fun c h=>(by cases h),?_⟩;rw [hrun'];obtain⟨q1,q2⟩:=LN (o' := .map es' cl') h5;obtain⟨f1,f2,f3⟩:=q8 (O:=O) st.sat (w' :={w with heap:=w.heap.setIfInBounds b (.map es' cl')}) (Nc γ kv b m) (Nc γ kv b (dC m k y)) st.own (fun _=>wh) (fun _=>wh) ⟨rfl,rfl,rfl,by simp,eX _⟩ (fun j hj=>q2 j hj) ⟨G_,es',cl',q1,h7⟩ G_;exact h _ _ S ⟨st.ext.step f1 (fun c hc=>st.own.1.2 c hc),f2,f3,st.facts⟩
end
def Vs(p:Int×Int×Int):Value:= .agg #[.int .i64 p.1,.int .i64 p.2.1,.int .i64 p.2.2]
def XF{kt el sz:Nat}{l:Array Field} [DecidableEq α]{mk:Int×Int×Int->α}(h:P.underlying kt=some (.struct l))(hl:l.toList.map (fun f=>(f.type,f.offset))=[(el,0),(el,1),(el,2)])(he:P.underlying el=some (.int .i64))(ti:TI P el sz bytes agg z)(k_:Nat.beq sz 1=true)(hag:r.agg=true)(hr: ∀p:Int×Int×Int,r.rc (fun _=>none) [.int .i64 p.1,.int .i64 p.2.1,.int .i64 p.2.2] (mk p))(hinj: ∀p q,mk p=mk q->p=q)(hq:Ux P kt r):WA P kt Vs where
 chk:=fun e w k=>by
  obtain⟨i,zv,hi,hs,_⟩:=ti.get;have D:sz=1:=rm k_;have ha:(isAgg el).run P w= .ok false w:=by
   simp [isAgg,lc he,Result.andThen]
  have Z: ∀(j:Nat) (x:Int) (cs:Array Value),cs[j]? =some (.int .i64 x)->(part el cs j).run P w= .ok (.int .i64 x) w:=fun j x cs hj=>by
   simp [part,ha,Result.andThen,hj]
  have h4: ∀x:Int,(Instr.checkKey e 9999 el (.int .i64 x)).run P w= .ok () w:=fun x=>by
   show(Instr.checkKey e (9998+1) el (.int .i64 x)).run P w= .ok () w;unfold Instr.checkKey;simp only [uc,lc he,vm];rfl
  have e1:=Z 0 k.1 #[.int .i64 k.1,.int .i64 k.2.1,.int .i64 k.2.2] rfl;have e2:=Z 1 k.2.1 #[.int .i64 k.1,.int .i64 k.2.1,.int .i64 k.2.2] rfl;have e3:=Z 2 k.2.2 #[.int .i64 k.1,.int .i64 k.2.1,.int .i64 k.2.2] rfl;obtain⟨l0,rfl⟩: ∃l0:List Field,l=l0.toArray:=⟨l.toList,by simp⟩;have hlen:l0.length=3:=by simpa using congrArg List.length hl
  obtain⟨f0,f1,f2,rfl⟩: ∃f0 f1 f2,l0=[f0,f1,f2]:=by
   match l0,hlen with
   |[a,b,c],_=>exact⟨a,b,c,rfl⟩
  simp only [vi,BE,List.cons.injEq,Prod.mk.injEq,and_true]at hl;obtain⟨⟨a0,b0⟩,⟨a1,b1⟩,⟨a2,b2⟩⟩:=hl;show(Instr.checkKey e (9999+1) kt (Vs k)).run P w= .ok () w;unfold Instr.checkKey;simp only [Vs,uc,lc h,vm];by_cases n0:f0.name= "_" <;>by_cases n1:f1.name= "_" <;>by_cases n2:f2.name= "_" <;>simp [n0,n1,n2,a0,a1,a2,b0,b1,b2,e1,e2,e3,h4,Result.andThen]
 eql:=fun w a b=>by
  have:=hq.run (fun _=>none) _ _ _ _ 9980 w (hr a) (hr b);have e1:decide (mk a=mk b)=decide (a=b):=BI.2 ⟨fun e=>hinj a b e,fun e=>by rw [e]⟩;rw [e1]at this;have hv: ∀p:Int×Int×Int,r.val [.int .i64 p.1,.int .i64 p.2.1,.int .i64 p.2.2]=Vs p:=fun p=>by simp [Rp.val,hag,Vs]
  rw [hv,hv]at this;show(Op.equalIn (9980+20) kt (Vs a) (Vs b)).run P w=_;exact this
 wide:=by rw [h]
 same:=fun k=>by
  show Instr.sameBits (9999+1) (Vs k) (Vs k)=true;unfold Instr.sameBits Vs;simp only [LQ,List.zip_nil_left,yF,List.all_nil];unfold Instr.sameBits;simp
 inj:=fun a b h=>by
  obtain⟨a1,a2,a3⟩:=a;obtain⟨b1,b2,b3⟩:=b;simpa [Vs] using h
section
variable [DecidableEq κ]{k:κ}{i v:Operand}{dst:Option Nat}
end
variable{os:Array Obj}
section
variable [DecidableEq κ]{h2:MV β}{os:List (Option Nat×Nat)}{h:Option κ}{dst:Option Nat}
end
section
variable{e:Exit}
def J7(k:Nat)(hs:fz xs lo hi=some ys)(hk:look G k=some (tV (o4 r.sz l cap lo.toNat ys.length)))(h:AT E hf e (dM r U l cap xs::O) ((k,tD (eW r) ys)::G)):AT E hf e (dM r U l cap xs::O) G:=fun a w S st=>h a w S (st.viewAt hs hk)
end
section
variable [DecidableEq κ]
end
section
variable [DecidableEq κ]{k:κ}{i v u:Operand}{dst:Option Nat}
end
open Go.Sort Go.Shelf
def Dt{k:Nat}(h:k<w.heap.size):(grow w os).heap[k]? =w.heap[k]? :=by
 unfold grow;exact Array.getElem?_append_left h
def Nq [Inhabited α]{enc:α->Value}{off:Nat}{d:Array α}{k:Nat}(h:k≠b):(putRow enc w b off d).heap[k]? =w.heap[k]? :=by
 unfold putRow mapBlock;rw [Array.getElem?_modify,aZ (Ne.symm h)]
def Dr [Inhabited α]{enc:α->Value}{off m:Nat}{d:Array α}{k:Nat}(hk:k<w.heap.size)(h:k≠b):(sortWorld enc w b off m d os).heap[k]? =w.heap[k]? :=by
 unfold sortWorld;rw [Dt (by rw [size_putRow];exact hk),Nq h];rfl
def KZ [Inhabited α]{enc:α->Value}{off m:Nat}{d:Array α}{c:Array Value}{fr:Nat×Nat}(h:w.heap[b]? =some (.cells c T fr)):
  (sortWorld enc w b off m d os).heap[b]? =some (.cells (putCells enc off d c) T fr):=by
 have o_:=(s9.1 h).1;unfold sortWorld;rw [Dt (by rw [size_putRow];exact o_)];unfold putRow mapBlock;rw [Array.getElem?_modify,bq rfl];show Option.map _ (w.heap[b]?)=_;rw [h];rfl
def Is [Inhabited α]{enc:α->Value}{d:Array α}{c:Array Value}(h:d.size<=c.size):(putCells enc 0 d c).toList.take d.size=d.toList.map enc:=by
 apply IT;intro k;by_cases hk:k<d.size
 ·rw [zT hk];have hc:k<c.size:=by omega
  simp [putCells,hc,hk]
 ·rw [E5 (by simp;omega),E5 (by simp;omega)]
section
def Oa{m:Nat}(hl:m=n)(s:Nat)(hs:look G s=some (tV (ak l cap n)))(k:RG E ops hf rest O ((s,tV (ak l cap m))::G)):RG E ops hf rest O G:=by
 subst hl;exact fun a w S st=>k a w S ⟨st.ext,st.sat,st.own,⟨st.facts.size,st.facts.defers,fun j t h=>by
  unfold look at h;by_cases K:Nat.beq s j=true
  ·rw [K]at h;have:=rm K;subst this;have e:tV (ak l cap m)=t:=by simpa using h
   rw [<-e];exact st.facts.h_ s _ hs
  ·rw [B6]at K;rw [K]at h;exact st.facts.h_ j t h⟩⟩
end
def ltF{α:Type}(cmp:α×α->Option Int)(x y:α):Bool:=
 match cmp (x,y)with
 |some c=>decide (c<0)
 |none=>false
def acU{α:Type}(lt:α->α->Bool)(x:α):List α->List α
 |[]=>[x]
 |y::ys=>if lt y x then y::acU lt x ys else x::y::ys
def Zr{α:Type}(lt:α->α->Bool):List α->List α
 |[]=>[]
 |x::xs=>acU lt x (Zr lt xs)
structure Good{α:Type}(cmp:α×α->Option Int)(xs:List α):Prop where
 len:xs.length<=1099511627776
 tot: ∀x∈xs,∀y∈xs,(cmp (x,y)).isSome=true
 irr: ∀x∈xs,ltF cmp x x=false
 tr: ∀x∈xs,∀y∈xs,∀z∈xs,ltF cmp x y=true->ltF cmp y z=true->ltF cmp x z=true
 anti: ∀x∈xs,∀y∈xs,ltF cmp x y=false->ltF cmp y x=false->x=y
def sortI(xs:List Int):List Int:=xs.mergeSort fun x y=>decide (x<=y)
def Ek(xs:List Int):(sortI xs).length=xs.length:=by unfold sortI;simp
def JE(x:Int):List Int->List Int
 |[]=>[x]
 |y::l=>if x<=y then x::y::l else y::JE x l
def Tz:List Int->List Int
 |[]=>[]
 |x::l=>JE x (Tz l)
def Cu(x:Int): ∀l:List Int,(JE x l).Perm (x::l)
 |[]=> .refl _
 |y::l=>by
  unfold JE;split
  ·exact .refl _
  ·exact((Cu x l).cons y).trans (.swap x y l)
def JD: ∀l:List Int,(Tz l).Perm l
 |[]=> .refl _
 |x::l=>(Cu x (Tz l)).trans ((JD l).cons x)
def Np(x:Int): ∀l:List Int,l.Pairwise (· <= ·)->(JE x l).Pairwise (· <= ·)
 |[],_=>List.pairwise_singleton _ _
 |y::l,h=>by
  have hy: ∀z∈l,y<=z:=fun z hz=>List.rel_of_pairwise_cons h hz;unfold JE;split
  ·rename_i I;refine List.Pairwise.cons (fun z hz=>?_) h;rcases iI.1 hz with rfl|hz
   ·exact I
   ·exact Int.le_trans I (hy z hz)
  ·rename_i I;refine List.Pairwise.cons (fun z hz=>?_) (Np x l (List.Pairwise.of_cons h));rcases iI.1 ((Cu x l).mem_iff.1 hz)with rfl|hz
   ·omega
   ·exact hy z hz
def RD: ∀l:List Int,(Tz l).Pairwise (· <= ·)
 |[]=> .nil
 |x::l=>Np x _ (RD l)
def XL(l:List Int):Tz l=sortI l:=by
 refine List.Perm.eq_of_pairwise (le:=(· <= ·)) (fun a b _ _ D V=>Int.le_antisymm D V) (RD l) ?_ ((JD l).trans (List.mergeSort_perm l _).symm);have:=List.pairwise_mergeSort (le:=fun x y:Int=>decide (x<=y)) (fun a b c D V=>by simp at*;omega) (fun a b=>by simp;omega) l;exact this.imp fun h=>by simpa using h
def G2(xs:List Int):Option (List Int):=if xs.length<=68719476736 then some (Tz xs)else none
def I4(xs:List Int):G2 xs=if xs.length<=68719476736 then some (sortI xs)else none:=by
 unfold G2;rw [XL]
def Mg{xs ys:List Int}(h:G2 xs=some ys):xs.length<=68719476736/\ys=sortI xs:=by
 rw [I4]at h;split at h
 ·exact⟨by assumption,by simpa using h.symm⟩
 ·cases h
def Rf{k:IntKind}{S:SH}: ∀{xs:List Int} {cs:List Value},vq (rI k) S cs xs->cs=xs.map (Value.int k)
 |[],cs,h=>by rw [show cs=[]from h];rfl
 |x::xs,cs,⟨a,b,e,D,V⟩=>by
  rw [e,show a=[.int k x]from D,Rf V];rfl
def RC{k:IntKind}{S:SH}: ∀xs:List Int,vq (rI k) S (xs.map (Value.int k)) xs
 |[]=>rfl
 |x::xs=>⟨[.int k x],_,rfl,rfl,RC xs⟩
def SM{ρ:Ren}(L:Lays.n189 P ρ){xs:List Int}(hlen0:xs.length<=68719476736)(hs:kQ w S)(h:(fa (rI .i64) T l cap xs).p w S):
  Calls P (ρ.f 189) #[ak l cap xs.length] w fun e w' =>e= .returned (.tuple #[])/\ji (fun k=>l=some k) w S w' S/\kQ w' S/\(fa (rI .i64) T l cap (sortI xs)).p w' S:=by
 cases l with
 |none=>
  have I:xs=[]:=uS (by obtain⟨_,h4,_⟩:=h;exact h4.1);subst I;exact(Any.slices_Sort_int_none (P:=P) (ρ:=ρ) L none 0 w).mono fun _ _ ⟨D,V⟩=>by subst V;exact⟨D,ji.refl _ _ _,hs,by simpa [sortI] using h⟩
 |some b=>
  obtain⟨cells0,⟨cur,K,hle,hmax,hcs,hct⟩,hrc,hno0⟩:=h;have G_:S b=none:=hno0 b rfl;subst hct;have D:(rI .i64).sz=1:=rfl;rw [D,Nat.mul_one]at hcs hrc;have hcells:=Rf hrc;have hH:Holds (Value.int .i64) w b 0 xs.toArray:=by
   intro j hj;have hj' :j<xs.length:=by simpa using hj
   have hc:cur[j]? =some (Value.int .i64 xs.toArray[j]!):=by
    have:(cur.toList.take xs.length)[j]? =some (Value.int .i64 xs.toArray[j]!):=by
     rw [hcells,D9,getElem!_pos xs.toArray j hj];simp [hj']
    rw [zT (by omega)]at this;simpa using this
   refine⟨by simp [World.cell?,K,hc],?_⟩;simp [World.frozen?,K]
  have hblk:=(s9.1 K).1;have hcall:=calls_of_every_depth fun h1=>AnyS.slices_Sort_int_alone (P:=P) (ρ:=ρ) L h1 b 0 cap xs w hH hblk (by omega);refine hcall.mono fun e w' ⟨he,n,os,hw⟩=>?_;have hlen:=Ek xs;have hw2:w' =sortWorld (Value.int .i64) w b 0 n (sortI xs).toArray os:=hw;subst hw2;refine⟨he,⟨rfl,rfl,rfl,Nat.le_add_right _ _,?_,fun k hk hkb=>Dr hk (fun e=>hkb (by rw [e])),SH.le_refl _,fun _ _ _=>rfl⟩,hs.same fun k o hk=>?_,⟨_,⟨_,KZ K,by omega,hmax,?_,rfl⟩,?_,hno0⟩⟩
  ·unfold sortWorld;rw [size_grow,size_putRow];exact Nat.le_add_right _ _
  ·have hkb:k≠b:=fun e=>by subst e;rw [G_]at hk;cases hk
   exact Dr (hs.lt hk) hkb
  ·simp [putCells,D,hcs]
  ·have e1:(sortI xs).length*(rI .i64).sz=(sortI xs).toArray.size:=by rw [D];simp
   rw [e1,Is (by simp;omega)];exact RC (sortI xs)
section
def Wy{ρ:Ren}(L:Lays.n189 E.P ρ){f:FuncId}(Q:ρ.f 189=f)(hc:af E.P f=true){xs ys:List Int}(hy:G2 xs=some ys)(I:aG E.N G x (tV (ak l cap n)))(hn:n=xs.length)(hd:Nat.blt d E.N.n=true)(k:ys.length=n->RG E ops hf rest (fa (rI .i64) T l cap ys::O) ((d,CZ)::G)):RG E ops hf (⟨some d,.call ⟨.value (.func f),#[x],ats⟩,ty,pos,after,none⟩::rest) (fa (rI .i64) T l cap xs::O) G:= .of rfl fun a w S st=>by
 obtain⟨hl0,rfl⟩:=Mg hy;subst Q;subst hn;have D:a.eval x=ak l cap xs.length:=I S a st.facts;have hr:(execOp a.eval ⟨some d,.call ⟨.value (.func (ρ.f 189)),#[x],ats⟩,ty,pos,after,none⟩).run E.P w= .ok (.enter (ρ.f 189) #[ak l cap xs.length]) w:=by
  have e0:a.eval (.func (ρ.f 189))= .func (.func (ρ.f 189)) #[] #[]:=rfl;simp [execOp,resolve,e0,D,Deferred.ofValue,invoke,gT hc]
 refine⟨fun c h=>(by cases h),?_⟩;rw [hr];refine(SM L hl0 st.sat st.own.1.1).mono fun e w' ⟨he,x_,C_,hp⟩=>⟨_,he,?_⟩;have hfp: ∀g∈O,∀b,g.fp b-> ¬(l=some b):=fun g H b K hl=>st.own.2.1 g H b hl K;refine k (Ek xs) _ _ S ⟨st.ext.step x_ (fun c hc=>st.own.1.2 c hc),C_,⟨⟨hp,st.own.1.2⟩,st.own.2.1,st.own.2.2.ext x_ hfp⟩,?_⟩;exact(st.facts.mono x_.keep).put hd trivial
end
open Go.Lib
def tS(hle: ∀(b:Nat) (o:Obj),W.heap[b]? =some o-> ∃o',w.heap[b]? =some o' /\Ig o o')(h:W.cell? ⟨b,i,none⟩=some v):w.cell? ⟨b,i,none⟩=some v:=by
 unfold World.cell? at h ⊢
 cases K:W.heap[b]? with
 |none=>simp [K]at h
 |some o=>
  obtain⟨o',D,V⟩:=hle b o K;simp only [K]at h;simp only [D]
  cases o with
  |cells c T fr=>
   obtain⟨l,rfl⟩:=V;simp only [Option.isSome_none,qD,lS]at h ⊢;rw [<-QR]at h ⊢;rw [lT (oC.1 h).1];exact h
  |_=>simp at h
def Ou{g:Nat}{T:Array CaseRow}(hle: ∀(b:Nat) (o:Obj),W.heap[b]? =some o-> ∃o',w.heap[b]? =some o' /\Ig o o')(h:CaseVar g T W):CaseVar g T w:=by
 obtain⟨R,oR,cap,D,V⟩:=h;exact⟨R,oR,cap,tS hle D,fun i hi=>⟨tS hle (V i hi).1,tS hle (V i hi).2.1,tS hle (V i hi).2.2.1,tS hle (V i hi).2.2.2.1,tS hle (V i hi).2.2.2.2⟩⟩
def LA{g3 g4:Nat}(hle: ∀(b:Nat) (o:Obj),W.heap[b]? =some o-> ∃o',w.heap[b]? =some o' /\Ig o o')(h:Utf8Tabs g3 g4 W):Utf8Tabs g3 g4 w:=
 ⟨fun c hc=>tS hle (h.1 c hc),fun i hi=>⟨tS hle (h.2 i hi).1,tS hle (h.2 i hi).2⟩⟩
def tEv(u:Value)(t:Ty):Ty where
 p:=fun S v=> ∃y,v= .tuple #[u,y]/\t.p S y
 mono:=fun h ⟨y,D,V⟩=>⟨y,D,t.mono h V⟩
section
variable [DecidableEq κ]{r:Nat}{os:List (Option Nat×Nat)}{left:List κ}{k:κ}{dst:Option Nat}
def JO{S:SH}(hinj: ∀a b,kv a=kv b->a=b): ∀{es:List MapEntry} {m:List (κ×β)},wN γ kv S es m-> ∀e∈es,e.key=kv k-> ∃y,jC m k=some y/\(γ y).p S e.val
 |[],[],_,e,he,_=>by cases he
 |e0::es,q::m,⟨D,V,Z,h4⟩,e,he,hk=>by
  unfold jC;rcases iI.1 he with rfl|he
  ·have:q.1=k:=hinj _ _ (D.symm.trans hk);rw [bq this];exact⟨_,rfl,V⟩
  ·obtain⟨y,g1,g2⟩:=JO hinj h4 e he hk;have:q.1≠k:=fun hq=>by
    have hm:jC m k≠none:=by rw [g1];simp
    exact hm (Tl fun p hp=>by rw [<-hq];exact Z p hp)
   rw [aZ this];exact⟨y,g1,g2⟩
def KO(y0:β)(hinj: ∀a b,kv a=kv b->a=b)(hmem:HA (CL γ) kv b r os m left (some k)∈O)(I:aG E.N G x (tV (an r 0))):
  ck E O G ⟨dst,.entry x,ty,pos,after,g⟩ (tEv (kv k) (γ ((jC m k).getD y0))):= .of_pure fun a w S hs ho Q=>by
 obtain⟨⟨_,_,_,_,es,clock,since,seen,c0,Z,h4,hst,h5,_,_,_,_,_,hcur⟩,_⟩:=dR.mem ho _ hmem;have D:a.eval x=an r 0:=I S a Q;obtain⟨rfl,e,hem,hk,s0,rfl⟩:=hcur k rfl;have u_:=run_entry_at (P:=E.P) w r b since s0 es c0 e h5 Z hem ((MapKept.stamped_iff es c0).1 hst).2.1;obtain⟨y,g1,g2⟩:=JO hinj (Qn h4) e hem hk;refine⟨.tuple #[e.key,e.val],?_,e.val,by rw [hk],by rw [g1];exact g2⟩;simp [execOp,D,an,u_]
def Hv{u:Value}{t:Ty}(I:aG E.N G x (tEv u t)):ck E O G ⟨dst,.extract x 1,ty,pos,after,g⟩ t:=
 .of_pure fun a w S _ _ Q=>by
  obtain⟨y,D,V⟩:=I S a Q;exact⟨y,by simp [execOp,D,Instr.extract],V⟩
end
