/- eJ of this claim: W44, W55, W29, W15. -/
import Derived.Test.YtpgjgkdpeagjbaaGreatDoorJaV1
import Derived.Test.YtpgjgkdpeagjbaaGreatDoorJaV3
import Derived.Test.YtpgjgkdpeagjbaaGreatDoorJaV2
import Derived.Shelf.Slices.In.SortNone
import Derived.Shelf.SlSortCmp.NoneTotal
set_option linter.all false
namespace Go.Proofs.YtpgjgkdpeagjbaaGreatDoor
open Go

def xG{α:Type}(cmp:α×α->Option Int)(x y:α):Bool:=
 match cmp (x,y)with
 |some c=>decide (c<0)
 |none=>false
def Me{α:Type}(lt:α->α->Bool)(x:α):List α->List α
 |[]=>[x]
 |y::ys=>if lt y x then y::Me lt x ys else x::y::ys
def Cl{α:Type}(lt:α->α->Bool):List α->List α
 |[]=>[]
 |x::xs=>Me lt x (Cl lt xs)
structure C9{α:Type}(cmp:α×α->Option Int)(xs:List α):Prop where
 len:xs.length<=1099511627776
 tot: ∀x∈xs,∀y∈xs,(cmp (x,y)).isSome=true
 irr: ∀x∈xs,xG cmp x x=false
 tr: ∀x∈xs,∀y∈xs,∀z∈xs,xG cmp x y=true->xG cmp y z=true->xG cmp x z=true
 anti: ∀x∈xs,∀y∈xs,xG cmp x y=false->xG cmp y x=false->x=y
def VE{α:Type} [DecidableEq α](cmp:α×α->Option Int)(xs:List α):Bool:=
 decide (xs.length<=1099511627776)&&xs.all (fun x=>xs.all fun y=>(cmp (x,y)).isSome)&&xs.all (fun x=> !xG cmp x x)&&
  xs.all (fun x=>xs.all fun y=>xs.all fun z=> !(xG cmp x y&&xG cmp y z)||xG cmp x z)&&xs.all (fun x=>xs.all fun y=>xG cmp x y||xG cmp y x||decide (x=y))
variable{α:Type}{cmp:α×α->Option Int}{xs:List α}
def OM [DecidableEq α]:VE cmp xs=true↔C9 cmp xs:=by
 unfold VE
 simp only [gN,p7,tB,Ai,j9,Bool.and_eq_false_imp]
 constructor
 ·rintro⟨⟨⟨⟨I,K⟩,h3⟩,h4⟩,h5⟩
  refine⟨I,K,h3,fun x V y hy z hz a b=>?_,fun x V y hy a b=>?_⟩
  ·rcases h4 x V y hy z hz with h|h
   ·rw [h a]at b;cases b
   ·exact h
  ·rcases h5 x V y hy with(h|h)|h
   ·rw [h]at a;cases a
   ·rw [h]at b;cases b
   ·exact h
 ·rintro⟨I,K,h3,h4,h5⟩
  refine⟨⟨⟨⟨I,K⟩,h3⟩,fun x V y hy z hz=>?_⟩,fun x V y hy=>?_⟩
  ·cases h6:xG cmp x y with
   |false=>exact .inl (fun h=>by cases h)
   |true=>
    cases h7:xG cmp y z with
    |false=>exact .inl (fun _=>rfl)
    |true=>exact .inr (h4 x V y hy z hz h6 h7)
  ·cases h6:xG cmp x y with
   |true=>exact .inl (.inl rfl)
   |false=>
    cases h7:xG cmp y x with
    |true=>exact .inl (.inr rfl)
    |false=>exact .inr (h5 x V y hy h6 h7)
def B9{α:Type} [DecidableEq α](cmp:α×α->Option Int)(xs:List α):Option (List α):=if VE cmp xs then some (Cl (xG cmp) xs)else none
variable{ys:List α}
def PT [DecidableEq α](h:B9 cmp xs=some ys):C9 cmp xs/\ys=Cl (xG cmp) xs:=by
 unfold B9 at h
 split at h
 ·exact⟨OM.1 (by assumption),by simpa using h.symm⟩
 ·cases h
def Hd [DecidableEq α](h:C9 cmp xs):B9 cmp xs=some (Cl (xG cmp) xs):=br (OM.2 h)
def sortI(xs:List Int):List Int:=xs.mergeSort fun x y=>decide (x<=y)
def EM(xs:List Int):(sortI xs).length=xs.length:=by unfold sortI;simp
def Hc(xs:List Int):Option (List Int):=if xs.length<=68719476736 then some (sortI xs)else none
def NC{xs ys:List Int}(h:Hc xs=some ys):xs.length<=68719476736/\ys=sortI xs:=by
 unfold Hc at h
 split at h
 ·exact⟨by assumption,by simpa using h.symm⟩
 ·cases h

variable{l:Option Nat}
def E0{α:Type}(lt:α->α->Bool)(x:α): ∀l:List α,(Me lt x l).Perm (x::l)
 |[]=> .refl _
 |y::ys=>by
  unfold Me
  split
  ·exact((E0 lt x ys).cons y).trans (.swap ..)
  ·exact .refl _
def wx{α:Type}(lt:α->α->Bool): ∀l:List α,(Cl lt l).Perm l
 |[]=> .refl _
 |x::xs=>(E0 lt x _).trans ((wx lt xs).cons x)
def C9.ntr(h:C9 cmp xs){x y z:α}(V:x∈xs)(hy:y∈xs)(hz:z∈xs)(I:xG cmp x y=false)(K:xG cmp y z=false):xG cmp x z=false:=by
 cases h3:xG cmp x z with
 |false=>rfl
 |true=>
  cases h4:xG cmp y x with
  |true=>rw [h.tr y hy x V z hz h4 h3]at K;cases K
  |false=>
   have:=h.anti x V y hy I h4
   subst this
   rw [h3]at K;cases K
def C9.asym(h:C9 cmp xs){x y:α}(V:x∈xs)(hy:y∈xs)(I:xG cmp x y=true):xG cmp y x=false:=by
 cases h3:xG cmp y x with
 |false=>rfl
 |true=>have:=h.tr x V y hy x V I h3;rw [h.irr x V]at this;cases this
def FW{α:Type}{cmp:α×α->Option Int}{xs:List α}(h:C9 cmp xs){x:α}(V:x∈xs): ∀l:List α,(∀y∈l,y∈xs)->l.Pairwise (fun a b=>xG cmp b a=false)->(Me (xG cmp) x l).Pairwise (fun a b=>xG cmp b a=false)
 |[],_,_=>List.pairwise_singleton _ _
 |y::ys,hm,hp=>by
  have hy:=hm y (mp ..)
  rw [BI]at hp
  unfold Me
  split
  ·rename_i hlt
   rw [BI]
   refine⟨fun z hz=>?_,FW h V ys (fun z hz=>hm z (lT _ hz)) hp.2⟩
   rcases gW.1 ((E0 _ x ys).mem_iff.1 hz)with e|e
   ·subst e;exact h.asym hy V hlt
   ·exact hp.1 z e
  ·rename_i hlt
   rw [Gb]at hlt
   refine BI.2 ⟨fun z hz=>?_,BI.2 hp⟩
   rcases gW.1 hz with e|e
   ·subst e;exact hlt
   ·exact h.ntr (hm z hz) hy V (hp.1 z e) hlt
def zg{α:Type}{cmp:α×α->Option Int}{xs:List α}(h:C9 cmp xs): ∀l:List α,(∀y∈l,y∈xs)->(Cl (xG cmp) l).Pairwise (fun a b=>xG cmp b a=false)
 |[],_=>List.Pairwise.nil
 |x::ys,hm=>FW h (hm x (mp ..)) _ (fun y hy=>hm y (lT _ ((wx _ ys).mem_iff.1 hy))) (zg h ys fun y hy=>hm y (lT _ hy))
open Go.Sort Go.Shelf

variable{S:SH}
def RA{k:IntKind}{S:SH}: ∀{xs:List Int} {cs:List Value},xE (rI k) S cs xs->cs=xs.map (Value.int k)
 |[],cs,h=>by rw [show cs=[]from h];rfl
 |x::xs,cs,⟨a,b,e,I,K⟩=>by
  rw [e,show a=[.int k x]from I,RA K]
  rfl
def RT{k:IntKind}{S:SH}: ∀xs:List Int,xE (rI k) S (xs.map (Value.int k)) xs
 |[]=>rfl
 |x::xs=>⟨[.int k x],_,rfl,rfl,RT xs⟩
variable{ak:TypeId}{cap:Nat}{w:World}{ρ:Ren}
def Tn{P:Program}(L:Lays.n189 P ρ){xs:List Int}(hlen0:xs.length<=68719476736)(hs:lF w S)(h:(ff (rI .i64) ak l cap xs).p w S):
  Calls P (ρ.f 189) #[bw l cap xs.length] w fun e w' =>e= .returned (.tuple #[])/\jh (fun k=>l=some k) w S w' S/\lF w' S/\(ff (rI .i64) ak l cap (sortI xs)).p w' S:=by
 cases l with
 |none=>
  have V:xs=[]:=vZ (by obtain⟨_,h4,_⟩:=h;exact h4.1)
  subst V
  exact(Any.slices_Sort_int_none (P:=P) (ρ:=ρ) L none 0 w).mono fun _ _ ⟨I,K⟩=>by subst K;exact⟨I,jh.refl _ _ _,hs,by simpa [sortI] using h⟩
 |some b=>
  obtain⟨cells0,⟨cur,M,hle,hmax,hcs,hct⟩,hrc,hno0⟩:=h
  have hno:S b=none:=hno0 b rfl
  subst hct
  have I:(rI .i64).sz=1:=rfl
  rw [I,Nat.mul_one]at hcs hrc
  have hcells:=RA hrc
  have hH:Holds (Value.int .i64) w b 0 xs.toArray:=by
   intro j hj
   have hj' :j<xs.length:=by simpa using hj
   have hc:cur[j]? =some (Value.int .i64 xs.toArray[j]!):=by
    have:(cur.toList.take xs.length)[j]? =some (Value.int .i64 xs.toArray[j]!):=by
     rw [hcells,GU,getElem!_pos xs.toArray j hj]
     simp [hj']
    rw [EG (by omega)]at this
    simpa using this
   refine⟨by simp [World.cell?,M,hc],?_⟩
   simp [World.frozen?,M]
  have hblk:=(yL.1 M).1
  have hcall:=calls_of_every_depth fun D=>AnyS.slices_Sort_int_alone (P:=P) (ρ:=ρ) L D b 0 cap xs w hH hblk (by omega)
  refine hcall.mono fun e w' ⟨he,n,os,hw⟩=>?_
  have hlen:=EM xs
  have hw2:w' =sortWorld (Value.int .i64) w b 0 n (sortI xs).toArray os:=hw
  subst hw2
  refine⟨he,⟨rfl,rfl,rfl,Nat.le_add_right _ _,?_,fun k hk hkb=>s9 hk (fun e=>hkb (by rw [e])),SH.le_refl _,fun _ _ _=>rfl⟩,hs.same fun k o hk=>?_,⟨_,⟨_,DY M,by omega,hmax,?_,rfl⟩,?_,hno0⟩⟩
  ·unfold sortWorld;rw [size_grow,size_putRow];exact Nat.le_add_right _ _
  ·have hkb:k≠b:=fun e=>by subst e;rw [hno]at hk;cases hk
   exact s9 (hs.lt hk) hkb
  ·simp [putCells,I,hcs]
  ·have e1:(sortI xs).length*(rI .i64).sz=(sortI xs).toArray.size:=by rw [I];simp
   rw [e1,Cj (by simp;omega)]
   exact RT (sortI xs)
section
variable{E:En}{aK:List OE}{G:nt}{aJ:Exit->Act->World->Prop}{ops:Array Oper}{rest:List Oper}{d:Nat}{ty:TypeId}{pos:String}{after:Array Edge}
def WI(L:Lays.n189 E.P ρ){f:FuncId}(hf:ρ.f 189=f)(hc:aj E.P f=true){n:Nat}{xs ys:List Int}{x:Operand}{ats:Array TypeId}(hy:Hc xs=some ys)(V:bk E.N G x (tV (bw l cap n)))(hn:n=xs.length)(hd:Nat.blt d E.N.n=true)(k:ys.length=n->RG E ops aJ rest (ff (rI .i64) ak l cap ys::aK) ((d,Ap)::G)):RG E ops aJ (⟨some d,.call ⟨.value (.func f),#[x],ats⟩,ty,pos,after,none⟩::rest) (ff (rI .i64) ak l cap xs::aK) G:= .of rfl fun a w S st=>by
 obtain⟨hl0,rfl⟩:=NC hy
 subst hf
 subst hn
 have I:a.eval x=bw l cap xs.length:=V S a st.facts
 have hr:(execOp a.eval ⟨some d,.call ⟨.value (.func (ρ.f 189)),#[x],ats⟩,ty,pos,after,none⟩).run E.P w= .ok (.enter (ρ.f 189) #[bw l cap xs.length]) w:=by
  have e0:a.eval (.func (ρ.f 189))= .func (.func (ρ.f 189)) #[] #[]:=rfl
  simp [execOp,resolve,e0,I,Deferred.ofValue,invoke,fZ hc]
 refine⟨fun c h=>(by cases h),?_⟩
 rw [hr]
 refine(Tn L hl0 st.sat st.own.1.1).mono fun e w' ⟨he,hext,hsat,hp⟩=>⟨_,he,?_⟩
 have hfp: ∀g∈aK,∀b,g.fp b-> ¬(l=some b):=fun g H b M hl=>st.own.2.1 g H b hl M
 refine k (EM xs) _ _ S ⟨st.ext.step hext (fun c hc=>st.own.1.2 c hc),hsat,⟨⟨hp,st.own.1.2⟩,st.own.2.1,st.own.2.2.ext hext hfp⟩,?_⟩;exact(st.facts.mono hext.keep).put hd trivial
end

structure Te{α:Type}(r:Rp α)(S:SH)(XS:List α):Type where
 v:Value
 x:α
 h:r.rc S [v] x
 m:x∈XS
def ad2{α:Type}{r:Rp α}(I:r.sz=1){S:SH}{XS:List α}: ∀{xs:List α} {cs:List Value},xE r S cs xs->(∀x∈xs,x∈XS)-> ∃d:List (Te r S XS),d.map Te.v=cs/\d.map Te.x=xs
 |[],cs,h,_=>⟨[],by rw [show cs=[]from h];rfl,rfl⟩
 |x::xs,cs,⟨a,b,e,K,h3⟩,hm=>by
  obtain⟨d,e1,e2⟩:=ad2 I h3 fun y hy=>hm y (lT _ hy)
  have hl:=r.len K
  rw [I]at hl
  obtain⟨v,rfl⟩:=List.length_eq_one_iff.1 hl
  exact⟨⟨v,x,K,hm x (mp ..)⟩::d,by rw [e,xU,e1];rfl,by rw [xU,e2]⟩
def KC{α:Type}{r:Rp α}{S:SH}{XS:List α}: ∀d:List (Te r S XS),xE r S (d.map Te.v) (d.map Te.x)
 |[]=>rfl
 |p::d=>⟨[p.v],_,rfl,p.h,KC d⟩

def T4{w' :World}{S' :SH}(h:jh s0 w S w' S'): ∃q os,w' =grow (w.drewN q) os:=by
 refine⟨w'.drawn-w.drawn,w'.heap.extract w.heap.size w'.heap.size,?_⟩
 obtain⟨hp,t,dr,os,out⟩:=w'
 have I:hp=w.heap++hp.extract w.heap.size hp.size:=by
  apply Array.ext_getElem?
  intro k
  have hs:=h.size
  simp only at hs
  by_cases hk:k<w.heap.size
  ·rw [Array.getElem?_append_left hk];exact h.heap k hk (fun h=>h)
  ·rw [Array.getElem?_append_right (by omega),Array.getElem?_extract]
   split
   ·congr 1;omega
   ·rename_i hlt
    rw [Array.getElem?_eq_none];omega
 have K:=h.os;have h3:=h.tape;have h4:=h.output;have h5:=h.drawn
 simp only at K h3 h4 h5
 subst K h3 h4
 unfold grow World.drewN
 simp only
 congr 1
 omega

def UU{P:Program}(L:SlLaysF.n6 P ρ) [DecidableEq α]{r:Rp α}(hag:r.agg=false){fv:Value}(hs:lF w S)(h:(ff r ak l cap xs).p w S)(hfv:(fL P (fun p:α×α=>[tD r p.1,tD r p.2]) (tD (rI .i64)) cmp).p S fv)(hy:B9 cmp xs=some ys):
  Calls P (ρ.f 6) #[bw l cap xs.length,fv] w fun e w' =>e= .returned (.tuple #[])/\jh (fun k=>l=some k) w S w' S/\lF w' S/\(ff r ak l cap ys).p w' S/\ys.length=xs.length:=by
 obtain⟨hG,hys⟩:=PT hy
 have hperm:ys.Perm xs:=by rw [hys];exact wx _ xs
 have hlen:=hperm.length_eq
 have none' :xs=[]->Calls P (ρ.f 6) #[bw l cap xs.length,fv] w fun e w' =>e= .returned (.tuple #[])/\jh (fun k=>l=some k) w S w' S/\lF w' S/\(ff r ak l cap ys).p w' S/\ys.length=xs.length:=by
  intro V
  subst V
  have e:ys=[]:=by rw [hys];rfl
  subst e
  cases l with
  |none=>exact(AnyF.slices_SortFunc_none (P:=P) (ρ:=ρ) {L with} none 0 fv w).mono fun _ _ ⟨I,K⟩=>by subst K;exact⟨I,jh.refl _ _ _,hs,h,rfl⟩
  |some b=>exact(AnyF.slices_SortFunc_none (P:=P) (ρ:=ρ) {L with} (some ⟨b,0,none⟩) cap fv w).mono fun _ _ ⟨I,K⟩=>by subst K;exact⟨I,jh.refl _ _ _,hs,h,rfl⟩
 cases l with
 |none=>exact none' (vZ (by obtain⟨_,h4,_⟩:=h;exact h4.1))
 |some b=>
  obtain⟨cells0,⟨cur,M,hle,hmax,hcs,hct⟩,hrc,hno0⟩:=h
  have hno:S b=none:=hno0 b rfl
  subst hct
  have I:=r.sc hag
  rw [I,Nat.mul_one]at hcs hrc
  obtain⟨d,hd1,vi⟩:=ad2 I hrc (fun x V=>V)
  have hdl:d.length=xs.length:=by have:=congrArg List.length vi;simpa using this
  cases hxs:xs with
  |nil=>rw [<-hxs];exact none' hxs
  |cons x0 xs0=>
  rw [<-hxs]
  have hne:0<d.length:=by rw [hdl,hxs];simp
  haveI:Inhabited (Te r S xs):=⟨d[0]⟩
  obtain⟨g,cb,rfl,hcal,hsp⟩:=hfv
  let enc:Te r S xs->Value:=Te.v
  let cf:Te r S xs->Te r S xs->Int:=fun p q=>(cmp (p.x,q.x)).getD 0
  have hcf: ∀p q,cmp (p.x,q.x)=some (cf p q):=fun p q=>by
   have:=hG.tot _ p.m _ q.m
   obtain⟨c,hc⟩:=Option.isSome_iff_exists.1 this
   show _=some ((cmp (p.x,q.x)).getD 0)
   rw [hc];rfl
  have hlt: ∀p q,ltOf cf p q=xG cmp p.x q.x:=fun p q=>by
   unfold ltOf xG;rw [hcf p q]
  have hO:SWO (ltOf cf):=⟨fun x=>by rw [hlt];exact hG.irr _ x.m,fun x y z a b=>by rw [hlt]at*;exact hG.tr _ x.m _ y.m _ z.m a b,fun x y z a b=>by rw [hlt]at*;exact hG.ntr x.m y.m z.m a b⟩
  have hblk:=(yL.1 M).1
  have hcmp:CmpLays1 P g cb enc cf b 0 d.toArray.size w:=by
   intro m os dk hdk x y
   have hsat:lF (sortWorld enc w b 0 m dk os) S:=hs.same fun k o hk=>by
    have hkb:k≠b:=fun e=>by subst e;rw [hno]at hk;cases hk
    exact s9 (hs.lt hk) hkb
   have:=hsp (x.x,y.x) _ (hcf x y) _ S [x.v,y.v] (SH.le_refl _) hsat ⟨⟨_,by unfold Rp.val;rw [hag];rfl,x.h⟩,⟨_,by unfold Rp.val;rw [hag];rfl,y.h⟩,trivial⟩
   refine this.mono fun e w' ⟨v,S'',he,hext,_,hv⟩=>⟨by rw [he,dL.1 hv],T4 hext⟩
  have hsz:d.toArray.size=xs.length:=by simpa using hdl
  have hH:Holds enc w b 0 d.toArray:=by
   intro j hj
   have hj' :j<d.length:=by simpa using hj
   have hc:cur[j]? =some (enc d.toArray[j]!):=by
    have:(cur.toList.take xs.length)[j]? =some (enc d.toArray[j]!):=by
     rw [<-hd1,GU,getElem!_pos d.toArray j hj]
     simp [hj',enc]
    rw [EG (by omega)]at this
    simpa using this
   refine⟨by simp [World.cell?,M,hc],?_⟩
   simp [World.frozen?,M]
  have hcall:=Any.slices_SortFunc L enc (fun p=>r.one p.h _ (List.mem_singleton_self _)) cf hO g cb b 0 cap d.toArray w (fun args w=>fZ hcal args w) hcmp hH hblk (by rw [hsz];have:=hG.len;omega)
  rw [hsz]at hcall
  refine hcall.mono fun e w' ⟨he,d',n,os,⟨hp1,_,hp2⟩,hso,hw⟩=>?_
  have hd's:d'.size=xs.length:=by rw [hp1,hsz]
  have hp3:d'.toList.Perm d:=by
   have e1:d'.extract 0 xs.length=d' :=by rw [<-hd's];exact Array.extract_size
   have e2:d.toArray.extract 0 xs.length=d.toArray:=by rw [<-hsz];exact Array.extract_size
   rw [e1,e2]at hp2
   simpa using hp2
  have hyd:ys=d'.toList.map Te.x:=by
   have hp4:(d'.toList.map Te.x).Perm xs:=by have:=hp3.map Te.x;rwa [vi]at this
   refine List.Perm.eq_of_pairwise (le:=fun a b=>xG cmp b a=false) ?_ ?_ ?_ (hperm.trans hp4.symm)
   ·intro a c ha hc h5 h6
    exact hG.anti a (hperm.mem_iff.1 ha) c (hp4.mem_iff.1 hc) h6 h5
   ·rw [hys];exact zg hG xs fun y hy=>hy
   ·rw [List.pairwise_iff_getElem]
    intro i j hi hj hij
    have hj' :j<d'.size:=by simpa using hj
    have:=hso i j (lG _) hij (by omega)
    rw [hlt,getElem!_pos d' j hj',getElem!_pos d' i (by omega)]at this
    simpa using this
  subst hw
  refine⟨he,⟨rfl,rfl,rfl,Nat.le_add_right _ _,?_,fun k hk hkb=>s9 hk (fun e=>hkb (by rw [e])),SH.le_refl _,fun _ _ _=>rfl⟩,hs.same fun k o hk=>?_,⟨_,⟨_,DY M,by omega,hmax,?_,rfl⟩,?_,hno0⟩,hlen⟩
  ·unfold sortWorld;rw [size_grow,size_putRow];exact Nat.le_add_right _ _
  ·have hkb:k≠b:=fun e=>by subst e;rw [hno]at hk;cases hk
   exact s9 (hs.lt hk) hkb
  ·simp [putCells,I,hcs]
  ·rw [I,Nat.mul_one,hlen,<-hd's,Cj (by omega),hyd]
   exact KC d'.toList

section
variable{E:En}{aK:List OE}{G:nt}{aJ:Exit->Act->World->Prop}{ops:Array Oper}{rest:List Oper}{d:Nat}{ty:TypeId}{pos:String}{after:Array Edge}
def IT(L:SlLaysF.n6 E.P ρ){f:FuncId}(hf:ρ.f 6=f)(hc:aj E.P f=true) [DecidableEq α]{r:Rp α}(hag:r.agg=false){n:Nat}{x y:Operand}{ats:Array TypeId}(hy' :B9 cmp xs=some ys)(V:bk E.N G x (tV (bw l cap n)))(hn:n=xs.length)(hy:bk E.N G y (fL E.P (fun p:α×α=>[tD r p.1,tD r p.2]) (tD (rI .i64)) cmp))(hd:Nat.blt d E.N.n=true)(k:ys.length=n->RG E ops aJ rest (ff r ak l cap ys::aK) ((d,Ap)::G)):RG E ops aJ (⟨some d,.call ⟨.value (.func f),#[x,y],ats⟩,ty,pos,after,none⟩::rest) (ff r ak l cap xs::aK) G:= .of rfl fun a w S st=>by
 subst hf
 subst hn
 have I:a.eval x=bw l cap xs.length:=V S a st.facts
 have hr:(execOp a.eval ⟨some d,.call ⟨.value (.func (ρ.f 6)),#[x,y],ats⟩,ty,pos,after,none⟩).run E.P w= .ok (.enter (ρ.f 6) #[bw l cap xs.length,a.eval y]) w:=by
  have e0:a.eval (.func (ρ.f 6))= .func (.func (ρ.f 6)) #[] #[]:=rfl
  simp [execOp,resolve,e0,I,Deferred.ofValue,invoke,fZ hc]
 refine⟨fun c h=>(by cases h),?_⟩
 rw [hr]
 refine(UU L hag st.sat st.own.1.1 (hy S a st.facts) hy').mono fun e w' ⟨he,hext,hsat,hp,hlen⟩=>⟨_,he,?_⟩
 have hfp: ∀g∈aK,∀b,g.fp b-> ¬(l=some b):=fun g H b M hl=>st.own.2.1 g H b hl M
 refine k hlen _ _ S ⟨st.ext.step hext (fun c hc=>st.own.1.2 c hc),hsat,⟨⟨hp,st.own.1.2⟩,st.own.2.1,st.own.2.2.ext hext hfp⟩,?_⟩;exact(st.facts.mono hext.keep).put hd trivial
end
end Go.Proofs.YtpgjgkdpeagjbaaGreatDoor

