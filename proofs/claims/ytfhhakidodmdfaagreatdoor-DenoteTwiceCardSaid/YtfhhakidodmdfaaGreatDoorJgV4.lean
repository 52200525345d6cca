/- cP of this claim: W57, W44, W55, W15, W29. -/
import Derived.Test.YtfhhakidodmdfaaGreatDoorJgV3
import Derived.Test.YtfhhakidodmdfaaGreatDoorJgV1
import Derived.Shelf.SlSortCmp.NoneTotal
import Derived.Test.YtfhhakidodmdfaaGreatDoorJgV2
import Derived.Shelf.Slices.In.SortNone
set_option linter.all false
namespace Go.Proofs.YtfhhakidodmdfaaGreatDoor
open Go

variable{α:Type}
theorem J{α:Sort _}{a:α}:a=a:=rfl
theorem aT:True:=trivial
abbrev bM(x:Int):Ty:=tD (rI .i64) x
abbrev iR(x:Bool):Ty:=tD rB x
abbrev jz{α:Type}(l:List α):Ty:=tD (rI .i64) (l.length:Int)
abbrev nP:Rp (List Int):=fV (rI .i64)
abbrev mv(l:List Int):Ty:=tD (fV (rI .i64)) l
abbrev ca{α:Type}(r:Rp α)(l:List α):Ty:=tD (fV r) l
abbrev sb{α:Type}(l:Option Nat)(c:Nat)(xs:List α):Ty:=tV (aR l c xs.length)
variable{G:mu}{p:Nat}
theorem bu: ∀{G' G:mu},G'.map (fun p=>de G p.1)=G'.map (fun p=>some p.2)→Me G' G
 |[],_,_=>trivial
 |(_,_)::_,_,h=>⟨(CM h).1,bu (CM h).2⟩

variable{E:En}{O:List OE}{T:TypeId}{after:Array Edge}{b:Bool}{c i k n off:Nat}{pos:String}{r:Rp α}{sz:Nat}{t:Ty}{ty:TypeId}{xs:List α}{y:Code}
section
variable{dst:Option Tmp}{g:Option (Nat×Bool)}
theorem dl{x:Nat}(h:de G x=some t):bS E O G ⟨dst,.move (.tmp x),ty,pos,after,g⟩ t:=bI (ht h)
theorem u8{x:Nat}(h:de G x=some t):bS E O G ⟨dst,.assign (.tmp x),ty,pos,after,g⟩ t:=aM (ht h)
theorem cD{k:IntKind}{n:Int}:bS E O G ⟨dst,.assign (.const (.int k n)),ty,pos,after,g⟩ (tD (rI k) n):=aM hI
theorem jL:bS E O G ⟨dst,.assign (.const (.bool b)),ty,pos,after,g⟩ (tD rB b):=aM hB
theorem bB{x:α}{U:TypeId}{bytes:Nat}{agg:Bool}{z:List Value}(ti:TI E.P U sz bytes agg z)(hp:de G p=some (bK r x))(hs:(r.sz,r.agg)=(sz,agg)):
  bS E O G ⟨dst,.load U (.tmp p),ty,pos,after,g⟩ (tD r x):=bO ti (Prod.mk.inj hs).1 (Prod.mk.inj hs).2 (ht hp)
theorem df{β:Type}{q:Rp β}{get:α→β}{x:α}(hf:cR E.P T i=some (off,sz))(hq:qu r off q get)(hp:de G p=some (bK r x))(h0:(!(Nat.beq sz 0)&&Nat.ble (off+q.sz) r.sz)=true):bS E O G ⟨dst,.fieldAddr T (.tmp p) i,ty,pos,after,g⟩ (bK q (get x)):=
 sy hf (by cases h:Nat.beq sz 0<;>simp [h]at h0 ⊢) hq (by revert h0;cases Nat.ble (off+q.sz) r.sz<;>simp) (ht hp)
theorem jg{x:Nat}{t e:TypeId}(hu:E.P.underlying t=some (.slice e))(hx:de G x=some (tD (fV r) xs)):
  bS E O G ⟨dst,.call ⟨.builtin .len,#[.tmp x],#[t]⟩,ty,pos,after,g⟩ (tD (rI .i64) (xs.length:Int)):=cW hu (ht hx)
theorem gp{ts:List Ty}{x:Nat}(hi:ts[i]? =some t)(hx:de G x=some (tT ts)):bS E O G ⟨dst,.extract (.tmp x) i,ty,pos,after,g⟩ t:=MJ hi (ht hx)
theorem jm{v:α}{x:Nat}(hx:de G x=some (tD r v)):bS E O G ⟨dst,.box T (.tmp x),ty,pos,after,g⟩ (bK r v):=MK (ht hx)
theorem u6{x:Nat}{q:Bool}(hc:de G c=some (tD rB b))(hx:de G x=some (po b (tD rB q))):bS E O G ⟨dst,.pick (.tmp c) (.tmp x) (.const (.bool false)),ty,pos,after,g⟩ (tD rB (b&&q)):=qN (ht hc) (fun hb=>bN hx hb)
theorem xo{x:Nat}{q:Bool}(hc:de G c=some (tD rB b))(hx:de G x=some (po (!b) (tD rB q))):bS E O G ⟨dst,.pick (.tmp c) (.const (.bool true)) (.tmp x),ty,pos,after,g⟩ (tD rB (b||q)):=yD (ht hc) (fun hb=>bN hx (Ae hb))
variable{xt yt:TypeId}{x y:Nat}{k:IntKind}{m n:Int}
theorem fM(hx:de G x=some (tD (rI k) m))(hy:de G y=some (tD (rI k) n)):bS E O G ⟨dst,.binOp .lss xt (.tmp x) (.tmp y) yt,ty,pos,after,g⟩ (tD rB (decide (m<n))):=gi (ht hx) (ht hy)
theorem nI{j:IntKind}(hx:de G x=some (tD (rI j) m)):bS E O G ⟨dst,.binOp .eql xt (.tmp x) (.const (.int j n)) yt,ty,pos,after,g⟩ (tD rB (m==n)):=dH (ht hx) hI
theorem s4{j:IntKind}(hx:de G x=some (tD (rI j) m)):bS E O G ⟨dst,.binOp .neq xt (.tmp x) (.const (.int j n)) yt,ty,pos,after,g⟩ (tD rB (m !=n)):=fe (ht hx) hI
theorem my{y:α}{x ix:Nat}{t e:TypeId}{k:IntKind}{i:Int}{bytes:Nat}{agg:Bool}{z:List Value}(hu:E.P.underlying t=some (.slice e))(ti:TI E.P e sz bytes agg z)(hsz:r.sz=sz)(hx:de G x=some (tD (fV r) xs))(hi:de G ix=some (tD (rI k) i))(hy:cN xs i=some y):
  bS E O G ⟨dst,.indexAddr t (.tmp x) (.tmp ix),ty,pos,after,g⟩ (bK r y):=br hu ti hsz (ht hx) (ht hi) hy
theorem mz{x:Nat}{xt yt:TypeId}(hi:i<9223372036854775807)(hx:de G x=some (tD (rI .i64) (i:Int))):
  bS E O G ⟨dst,.binOp .add xt (.tmp x) (.const (.int .i64 1)) yt,ty,pos,after,g⟩ (tD (rI .i64) ((i+1:Nat):Int)):=yE hi (ht hx) hI
theorem jN{b o:Nat}(n:Nat)(hf:cR E.P T i=some (off,sz))(h0:Nat.beq sz 0=false)(hp:de G p=some (tV (aN b o)))(he:o+off=n):bS E O G ⟨dst,.fieldAddr T (.tmp p) i,ty,pos,after,g⟩ (tV (aN b n)):=o0 (n:=n) hf h0 (ht hp) he
end
variable{Q:Exit→Act→World→Prop}{d:Nat}{l:Option Nat}{op:Op}{ops:Array Oper}
section
variable{l:List Oper}
theorem zo(hd:Nat.blt d E.N.n=true)(h:bS E O G ⟨some d,op,ty,pos,after,none⟩ t)(k:RG E ops Q l O ((d,t)::G)):
  RG E ops Q (⟨some d,op,ty,pos,after,none⟩::l) O G:=qt h hd k
def WD(n d:Nat)(r:Option Ty):Option Ty:=if Nat.blt d n then r else none
theorem lj{r:Option Ty}(h:WD n d r=some t):Nat.blt d n=true∧r=some t:=by
 unfold WD at h;split at h
 case isTrue h1=>exact⟨h1,h⟩
 case isFalse=>cases h
theorem aG{x:Nat}(h:WD E.N.n d (de G x)=some t)(k:RG E ops Q l O ((d,t)::G)):
  RG E ops Q (⟨some d,.move (.tmp x),ty,pos,after,none⟩::l) O G:=qt (bI (ht (lj h).2)) (lj h).1 k
theorem bp{x:Nat}(h:WD E.N.n d (de G x)=some t)(k:RG E ops Q l O ((d,t)::G)):
  RG E ops Q (⟨some d,.assign (.tmp x),ty,pos,after,none⟩::l) O G:=qt (aM (ht (lj h).2)) (lj h).1 k
theorem av(h:CG E Q y O G):RG E ops (Exit.then (y.wpIn (fw E.r) 0 E.P Q) Q) [] O G:=aP (ax h)
theorem aw{id:Nat}{l:List Oper}(h:RG E l.toArray (Exit.then (y.wpIn (fw E.r) 0 E.P Q) Q) l O G):CG E Q (.seq (.region id l.toArray false) y) O G:=ah (au h)
theorem cU{β:Type _}{X Y:Option β}{r:β}{x:Code}(h:(if b=true then X else Y)=some r)(hb:de G c=some (tD rB b))(hx:X=some r→CG E Q x O G)(hy:Y=some r→CG E Q y O G):CG E Q (.cond (.tmp c) x y) O G:=
 pi (ht hb) (fun hc=>hx (ct h hc)) (fun hc=>hy (cf h hc))
theorem dS(h:CG E Q y O G):CG E (Exit.then (y.wpIn (fw E.r) 0 E.P Q) Q) .skip O G:=bA (ax h)
theorem dQ{j gs:Nat}(hj:(ops[j]?).bind (·.dst)=some gs)(hg:WD E.N.n gs (WD E.N.n d (de G gs))=some (tD rB b))(h:b=true→bS E O G ⟨some d,op,ty,pos,after,some (j,true)⟩ t)(k:RG E ops Q l O ((d,po b t)::G)):RG E ops Q (⟨some d,op,ty,pos,after,some (j,true)⟩::l) O G:=Wh hj (lj hg).1 (lj (lj hg).2).2 (lj (lj hg).2).1 h k
theorem gz{j gs:Nat}(hj:(ops[j]?).bind (·.dst)=some gs)(hg:WD E.N.n gs (WD E.N.n d (de G gs))=some (tD rB b))(h:(!b)=true→bS E O G ⟨some d,op,ty,pos,after,some (j,false)⟩ t)(k:RG E ops Q l O ((d,po (!b) t)::G)):RG E ops Q (⟨some d,op,ty,pos,after,some (j,false)⟩::l) O G:=Wi hj (lj hg).1 (lj (lj hg).2).2 (lj (lj hg).2).1 h k
end
theorem bC{α:Type _}{β:Type _}{x:Option α}{k:α→Option β}{r:β}{P:Prop}(h:x.bind k=some r)(f: ∀y,x=some y→k y=some r→P):P:=by
 obtain⟨y,h1,h2⟩:=bs h;exact f y h1 h2
variable{u u1:Ty}
section
variable{l:List Oper}{ts:List Ty}{o:Oper}
theorem Dy{a c:Bool}(h:(a&&b&&c)=true):a=true∧b=true∧c=true:=by revert h;cases a<;>cases b<;>cases c<;>simp
theorem ZY{x:Option α}(h:x.isNone=true):x=none:=by cases x;rfl;cases h
theorem Pv(h:ts[i]? =some t)(hb:(eF i o&&o.guard.isNone)=true)(k:bS E O [] o t): ∃(needs:List Nd) (t:Ty),ts[i]? =some t∧ua G ts needs∧(needs.all (p7 l o i))=true∧eF i o=true∧cv E O l.toArray (j6 needs) o t:=
 ⟨[],t,h,trivial,rfl,(CS.1 hb).1,ay (ZY (CS.1 hb).2) k⟩
theorem eM(a:Nat)(h:ts[i]? =some t)(hu:yg G ts ⟨a,u,none⟩)(hb:([(⟨a,u,none⟩:Nd)].all (p7 l o i)&&eF i o&&o.guard.isNone)=true)(k:bS E O [(a,u)] o t): ∃(needs:List Nd) (t:Ty),ts[i]? =some t∧ua G ts needs∧(needs.all (p7 l o i))=true∧eF i o=true∧cv E O l.toArray (j6 needs) o t:=
 ⟨[(⟨a,u,none⟩:Nd)],t,h,⟨hu,trivial⟩,(Dy hb).1,(Dy hb).2.1,ay (ZY (Dy hb).2.2) k⟩
theorem bY(a:Nat)(j:Nat)(h:ts[i]? =some t)(hu:yg G ts ⟨a,u,(some j)⟩)(hb:([(⟨a,u,(some j)⟩:Nd)].all (p7 l o i)&&eF i o&&o.guard.isNone)=true)(k:bS E O [(a,u)] o t): ∃(needs:List Nd) (t:Ty),ts[i]? =some t∧ua G ts needs∧(needs.all (p7 l o i))=true∧eF i o=true∧cv E O l.toArray (j6 needs) o t:=
 ⟨[(⟨a,u,(some j)⟩:Nd)],t,h,⟨hu,trivial⟩,(Dy hb).1,(Dy hb).2.1,ay (ZY (Dy hb).2.2) k⟩
theorem s7(a:Nat)(a1:Nat)(j1:Nat)(h:ts[i]? =some t)(hu:yg G ts ⟨a,u,none⟩)(hu1:yg G ts ⟨a1,u1,(some j1)⟩)(hb:([(⟨a,u,none⟩:Nd),⟨a1,u1,(some j1)⟩].all (p7 l o i)&&eF i o)=true)(k:cv E O l.toArray [(a,u),(a1,u1)] o t): ∃(needs:List Nd) (t:Ty),ts[i]? =some t∧ua G ts needs∧(needs.all (p7 l o i))=true∧eF i o=true∧cv E O l.toArray (j6 needs) o t:=
 ⟨[(⟨a,u,none⟩:Nd),⟨a1,u1,(some j1)⟩],t,h,⟨hu,hu1,trivial⟩,(CS.1 hb).1,(CS.1 hb).2,k⟩
theorem d8(a:Nat)(j:Nat)(a1:Nat)(j1:Nat)(h:ts[i]? =some t)(hu:yg G ts ⟨a,u,(some j)⟩)(hu1:yg G ts ⟨a1,u1,(some j1)⟩)(hb:([(⟨a,u,(some j)⟩:Nd),⟨a1,u1,(some j1)⟩].all (p7 l o i)&&eF i o&&o.guard.isNone)=true)(k:bS E O [(a,u),(a1,u1)] o t): ∃(needs:List Nd) (t:Ty),ts[i]? =some t∧ua G ts needs∧(needs.all (p7 l o i))=true∧eF i o=true∧cv E O l.toArray (j6 needs) o t:=
 ⟨[(⟨a,u,(some j)⟩:Nd),⟨a1,u1,(some j1)⟩],t,h,⟨hu,hu1,trivial⟩,(Dy hb).1,(Dy hb).2.1,ay (ZY (Dy hb).2.2) k⟩
theorem lL(a:Nat)(j:Nat)(a1:Nat)(j1:Nat)(h:ts[i]? =some t)(hu:yg G ts ⟨a,u,(some j)⟩)(hu1:yg G ts ⟨a1,u1,(some j1)⟩)(hb:([(⟨a,u,(some j)⟩:Nd),⟨a1,u1,(some j1)⟩].all (p7 l o i)&&eF i o)=true)(k:cv E O l.toArray [(a,u),(a1,u1)] o t): ∃(needs:List Nd) (t:Ty),ts[i]? =some t∧ua G ts needs∧(needs.all (p7 l o i))=true∧eF i o=true∧cv E O l.toArray (j6 needs) o t:=
 ⟨[(⟨a,u,(some j)⟩:Nd),⟨a1,u1,(some j1)⟩],t,h,⟨hu,hu1,trivial⟩,(CS.1 hb).1,(CS.1 hb).2,k⟩
theorem GL(a:Nat)(j:Nat)(a1:Nat)(j1:Nat)(a2:Nat)(j2:Nat){u2:Ty}(h:ts[i]? =some t)(hu:yg G ts ⟨a,u,(some j)⟩)(hu1:yg G ts ⟨a1,u1,(some j1)⟩)(hu2:yg G ts ⟨a2,u2,(some j2)⟩)(hb:([(⟨a,u,(some j)⟩:Nd),⟨a1,u1,(some j1)⟩,⟨a2,u2,(some j2)⟩].all (p7 l o i)&&eF i o&&o.guard.isNone)=true)(k:bS E O [(a,u),(a1,u1),(a2,u2)] o t): ∃(needs:List Nd) (t:Ty),ts[i]? =some t∧ua G ts needs∧(needs.all (p7 l o i))=true∧eF i o=true∧cv E O l.toArray (j6 needs) o t:=
 ⟨[(⟨a,u,(some j)⟩:Nd),⟨a1,u1,(some j1)⟩,⟨a2,u2,(some j2)⟩],t,h,⟨hu,hu1,hu2,trivial⟩,(Dy hb).1,(Dy hb).2.1,ay (ZY (Dy hb).2.2) k⟩
theorem wI(a:Nat)(j:Nat)(a1:Nat)(j1:Nat)(a2:Nat)(j2:Nat){u2:Ty}(h:ts[i]? =some t)(hu:yg G ts ⟨a,u,(some j)⟩)(hu1:yg G ts ⟨a1,u1,(some j1)⟩)(hu2:yg G ts ⟨a2,u2,(some j2)⟩)(hb:([(⟨a,u,(some j)⟩:Nd),⟨a1,u1,(some j1)⟩,⟨a2,u2,(some j2)⟩].all (p7 l o i)&&eF i o)=true)(k:cv E O l.toArray [(a,u),(a1,u1),(a2,u2)] o t): ∃(needs:List Nd) (t:Ty),ts[i]? =some t∧ua G ts needs∧(needs.all (p7 l o i))=true∧eF i o=true∧cv E O l.toArray (j6 needs) o t:=
 ⟨[(⟨a,u,(some j)⟩:Nd),⟨a1,u1,(some j1)⟩,⟨a2,u2,(some j2)⟩],t,h,⟨hu,hu1,hu2,trivial⟩,(CS.1 hb).1,(CS.1 hb).2,k⟩
end

def uU{α:Type}(cmp:α×α→Option Int)(x y:α):Bool:=
 match cmp (x,y)with
 |some c=>decide (c<0)
 |none=>false
def IF{α:Type}(lt:α→α→Bool)(x:α):List α→List α
 |[]=>[x]
 |y::ys=>if lt y x then y::IF lt x ys else x::y::ys
def zB{α:Type}(lt:α→α→Bool):List α→List α
 |[]=>[]
 |x::xs=>IF lt x (zB lt xs)
structure Ay{α:Type}(cmp:α×α→Option Int)(xs:List α):Prop where
 len:xs.length≤1099511627776
 tot: ∀x∈xs,∀y∈xs,(cmp (x,y)).isSome=true
 irr: ∀x∈xs,uU cmp x x=false
 tr: ∀x∈xs,∀y∈xs,∀z∈xs,uU cmp x y=true→uU cmp y z=true→uU cmp x z=true
 anti: ∀x∈xs,∀y∈xs,uU cmp x y=false→uU cmp y x=false→x=y
def RT{α:Type} [DecidableEq α](cmp:α×α→Option Int)(xs:List α):Bool:=
 decide (xs.length≤1099511627776)&&xs.all (fun x=>xs.all fun y=>(cmp (x,y)).isSome)&&xs.all (fun x=> !uU cmp x x)&&
  xs.all (fun x=>xs.all fun y=>xs.all fun z=> !(uU cmp x y&&uU cmp y z)||uU cmp x z)&&xs.all (fun x=>xs.all fun y=>uU cmp x y||uU cmp y x||decide (x=y))
variable{cmp:α×α→Option Int}
theorem KT [DecidableEq α]:RT cmp xs=true↔Ay cmp xs:=by
 unfold RT
 simp only [mi,jZ,pW,Dn,kX,Bool.and_eq_false_imp]
 constructor
 ·rintro⟨⟨⟨⟨h1,h2⟩,h3⟩,h4⟩,h5⟩
  refine⟨h1,h2,h3,fun x hx y hy z hz a b=>?_,fun x hx y hy a b=>?_⟩
  ·rcases h4 x hx y hy z hz with h|h
   ·rw [h a]at b;cases b
   ·exact h
  ·rcases h5 x hx y hy with(h|h)|h
   ·rw [h]at a;cases a
   ·rw [h]at b;cases b
   ·exact h
 ·rintro⟨h1,h2,h3,h4,h5⟩
  refine⟨⟨⟨⟨h1,h2⟩,h3⟩,fun x hx y hy z hz=>?_⟩,fun x hx y hy=>?_⟩
  ·cases h6:uU cmp x y with
   |false=>exact .inl (fun h=>by cases h)
   |true=>
    cases h7:uU cmp y z with
    |false=>exact .inl (fun _=>rfl)
    |true=>exact .inr (h4 x hx y hy z hz h6 h7)
  ·cases h6:uU cmp x y with
   |true=>exact .inl (.inl rfl)
   |false=>
    cases h7:uU cmp y x with
    |true=>exact .inl (.inr rfl)
    |false=>exact .inr (h5 x hx y hy h6 h7)
def zp{α:Type} [DecidableEq α](cmp:α×α→Option Int)(xs:List α):Option (List α):=if RT cmp xs then some (zB (uU cmp) xs)else none
variable{ys:List α}
theorem Mf [DecidableEq α](h:zp cmp xs=some ys):Ay cmp xs∧ys=zB (uU cmp) xs:=by
 unfold zp at h
 split at h
 ·exact⟨KT.1 (by assumption),by simpa using h.symm⟩
 ·cases h
theorem Eo [DecidableEq α](h:Ay cmp xs):zp cmp xs=some (zB (uU cmp) xs):=aY (KT.2 h)
def sortI(xs:List Int):List Int:=xs.mergeSort fun x y=>decide (x≤y)
theorem B6(xs:List Int):(sortI xs).length=xs.length:=by unfold sortI;simp
def Em(xs:List Int):Option (List Int):=if xs.length≤68719476736 then some (sortI xs)else none
theorem JM{xs ys:List Int}(h:Em xs=some ys):xs.length≤68719476736∧ys=sortI xs:=by
 unfold Em at h
 split at h
 ·exact⟨by assumption,by simpa using h.symm⟩
 ·cases h

theorem Ck{α:Type}(lt:α→α→Bool)(x:α): ∀l:List α,(IF lt x l).Perm (x::l)
 |[]=> .refl _
 |y::ys=>by
  unfold IF
  split
  ·exact((Ck lt x ys).cons y).trans (.swap ..)
  ·exact .refl _
theorem tG{α:Type}(lt:α→α→Bool): ∀l:List α,(zB lt l).Perm l
 |[]=> .refl _
 |x::xs=>(Ck lt x _).trans ((tG lt xs).cons x)
theorem Ay.ntr(h:Ay cmp xs){x y z:α}(hx:x∈xs)(hy:y∈xs)(hz:z∈xs)(h1:uU cmp x y=false)(h2:uU cmp y z=false):uU cmp x z=false:=by
 cases h3:uU cmp x z with
 |false=>rfl
 |true=>
  cases h4:uU cmp y x with
  |true=>rw [h.tr y hy x hx z hz h4 h3]at h2;cases h2
  |false=>
   have:=h.anti x hx y hy h1 h4
   subst this
   rw [h3]at h2;cases h2
theorem Ay.asym(h:Ay cmp xs){x y:α}(hx:x∈xs)(hy:y∈xs)(h1:uU cmp x y=true):uU cmp y x=false:=by
 cases h3:uU cmp y x with
 |false=>rfl
 |true=>have:=h.tr x hx y hy x hx h1 h3;rw [h.irr x hx]at this;cases this
theorem C7{α:Type}{cmp:α×α→Option Int}{xs:List α}(h:Ay cmp xs){x:α}(hx:x∈xs): ∀l:List α,(∀y∈l,y∈xs)→l.Pairwise (fun a b=>uU cmp b a=false)→(IF (uU cmp) x l).Pairwise (fun a b=>uU cmp b a=false)
 |[],_,_=>List.pairwise_singleton _ _
 |y::ys,hm,hp=>by
  have hy:=hm y (kO ..)
  rw [BX]at hp
  unfold IF
  split
  ·rename_i hlt
   rw [BX]
   refine⟨fun z hz=>?_,C7 h hx ys (fun z hz=>hm z (kN _ hz)) hp.2⟩
   rcases fk.1 ((Ck _ x ys).mem_iff.1 hz)with e|e
   ·subst e;exact h.asym hy hx hlt
   ·exact hp.1 z e
  ·rename_i hlt
   rw [xd]at hlt
   refine BX.2 ⟨fun z hz=>?_,BX.2 hp⟩
   rcases fk.1 hz with e|e
   ·subst e;exact hlt
   ·exact h.ntr (hm z hz) hy hx (hp.1 z e) hlt
theorem wm{α:Type}{cmp:α×α→Option Int}{xs:List α}(h:Ay cmp xs): ∀l:List α,(∀y∈l,y∈xs)→(zB (uU cmp) l).Pairwise (fun a b=>uU cmp b a=false)
 |[],_=>List.Pairwise.nil
 |x::ys,hm=>C7 h (hm x (kO ..)) _ (fun y hy=>hm y (kN _ ((tG _ ys).mem_iff.1 hy))) (wm h ys fun y hy=>hm y (kN _ hy))
open Go.Sort Go.Shelf

structure Pt{α:Type}(r:Rp α)(S:SH)(XS:List α):Type where
 v:Value
 x:α
 h:r.rc S [v] x
 m:x∈XS
variable{S:SH}
theorem aam{α:Type}{r:Rp α}(h1:r.sz=1){S:SH}{XS:List α}: ∀{xs:List α} {cs:List Value},uT r S cs xs→(∀x∈xs,x∈XS)→ ∃d:List (Pt r S XS),d.map Pt.v=cs∧d.map Pt.x=xs
 |[],cs,h,_=>⟨[],by rw [show cs=[]from h];rfl,rfl⟩
 |x::xs,cs,⟨a,b,e,h2,h3⟩,hm=>by
  obtain⟨d,e1,e2⟩:=aam h1 h3 fun y hy=>hm y (kN _ hy)
  have hl:=r.len h2
  rw [h1]at hl
  obtain⟨v,rfl⟩:=List.length_eq_one_iff.1 hl
  exact⟨⟨v,x,h2,hm x (kO ..)⟩::d,by rw [e,AB,e1];rfl,by rw [AB,e2]⟩
theorem Hm{α:Type}{r:Rp α}{S:SH}{XS:List α}: ∀d:List (Pt r S XS),uT r S (d.map Pt.v) (d.map Pt.x)
 |[]=>rfl
 |p::d=>⟨[p.v],_,rfl,p.h,Hm d⟩
variable{os:Array Obj}{w:World}
theorem Bn(h:k<w.heap.size):(grow w os).heap[k]? =w.heap[k]? :=by
 unfold grow;exact Array.getElem?_append_left h
variable{enc:α→Value}
theorem KS [Inhabited α]{b:Nat}{d:Array α}(h:k≠b):(putRow enc w b off d).heap[k]? =w.heap[k]? :=by
 unfold putRow mapBlock
 rw [Array.getElem?_modify,aL (Ne.symm h)]
theorem qj [Inhabited α]{b m:Nat}{d:Array α}(hk:k<w.heap.size)(h:k≠b):(sortWorld enc w b off m d os).heap[k]? =w.heap[k]? :=by
 unfold sortWorld
 rw [Bn (by rw [size_putRow];exact hk),KS h];rfl
theorem Bm [Inhabited α]{b m:Nat}{d:Array α}{c:Array Value}{fr:Nat×Nat}(h:w.heap[b]? =some (.cells c T fr)):
  (sortWorld enc w b off m d os).heap[b]? =some (.cells (putCells enc off d c) T fr):=by
 have hlt:=(vT.1 h).1
 unfold sortWorld
 rw [Bn (by rw [size_putRow];exact hlt)]
 unfold putRow mapBlock
 rw [Array.getElem?_modify,aY rfl]
 show Option.map _ (w.heap[b]?)=_
 rw [h];rfl
theorem zz [Inhabited α]{d:Array α}{c:Array Value}(h:d.size≤c.size):(putCells enc 0 d c).toList.take d.size=d.toList.map enc:=by
 apply Jr
 intro k
 by_cases hk:k<d.size
 ·rw [BZ hk]
  have hc:k<c.size:=by omega
  simp [putCells,hc,hk]
 ·rw [D4 (by simp;omega),D4 (by simp;omega)]
theorem Qf{w' :World}{S' :SH}(h:fY pT w S w' S'): ∃q os,w' =grow (w.drewN q) os:=by
 refine⟨w'.drawn-w.drawn,w'.heap.extract w.heap.size w'.heap.size,?_⟩
 obtain⟨hp,t,dr,os,out⟩:=w'
 have h1:hp=w.heap++hp.extract w.heap.size hp.size:=by
  apply Array.ext_getElem?
  intro k
  have hs:=h.size
  simp only at hs
  by_cases hk:k<w.heap.size
  ·rw [Array.getElem?_append_left hk];exact h.heap k hk (fun h=>h)
  ·rw [Array.getElem?_append_right (by omega),Array.getElem?_extract]
   split
   ·congr 1;omega
   ·rename_i hlt
    rw [Array.getElem?_eq_none];omega
 have h2:=h.os;have h3:=h.tape;have h4:=h.output;have h5:=h.drawn
 simp only at h2 h3 h4 h5
 subst h2 h3 h4
 unfold grow World.drewN
 simp only
 congr 1
 omega

variable{cap:Nat}{ρ:Ren}
theorem Q5{P:Program}(L:SlLaysF.n6 P ρ) [DecidableEq α](hag:r.agg=false){fv:Value}(hs:jy w S)(h:(fj r T l cap xs).p w S)(hfv:(dX P (fun p:α×α=>[tD r p.1,tD r p.2]) (tD (rI .i64)) cmp).p S fv)(hy:zp cmp xs=some ys):
  Calls P (ρ.f 6) #[aR l cap xs.length,fv] w fun e w' =>e= .returned (.tuple #[])∧fY (fun k=>l=some k) w S w' S∧jy w' S∧(fj r T l cap ys).p w' S∧ys.length=xs.length:=by
 obtain⟨hG,hys⟩:=Mf hy
 have hperm:ys.Perm xs:=by rw [hys];exact tG _ xs
 have hlen:=hperm.length_eq
 have none' :xs=[]→Calls P (ρ.f 6) #[aR l cap xs.length,fv] w fun e w' =>e= .returned (.tuple #[])∧fY (fun k=>l=some k) w S w' S∧jy w' S∧(fj r T l cap ys).p w' S∧ys.length=xs.length:=by
  intro hx
  subst hx
  have e:ys=[]:=by rw [hys];rfl
  subst e
  cases l with
  |none=>exact(AnyF.slices_SortFunc_none (P:=P) (ρ:=ρ) {L with} none 0 fv w).mono fun _ _ ⟨h1,h2⟩=>by subst h2;exact⟨h1,fY.refl _ _ _,hs,h,rfl⟩
  |some b=>exact(AnyF.slices_SortFunc_none (P:=P) (ρ:=ρ) {L with} (some ⟨b,0,none⟩) cap fv w).mono fun _ _ ⟨h1,h2⟩=>by subst h2;exact⟨h1,fY.refl _ _ _,hs,h,rfl⟩
 cases l with
 |none=>exact none' (uf (by obtain⟨_,h4,_⟩:=h;exact h4.1))
 |some b=>
  obtain⟨cells0,⟨cur,hb,hle,hmax,hcs,hct⟩,hrc,hno0⟩:=h
  have hno:S b=none:=hno0 b rfl
  subst hct
  have h1:=r.sc hag
  rw [h1,Nat.mul_one]at hcs hrc
  obtain⟨d,Z3,sd⟩:=aam h1 hrc (fun x hx=>hx)
  have hdl:d.length=xs.length:=by have:=congrArg List.length sd;simpa using this
  cases hxs:xs with
  |nil=>rw [←hxs];exact none' hxs
  |cons x0 xs0=>
  rw [←hxs]
  have hne:0<d.length:=by rw [hdl,hxs];simp
  haveI:Inhabited (Pt r S xs):=⟨d[0]⟩
  obtain⟨g,cb,rfl,hcal,hsp⟩:=hfv
  let enc:Pt r S xs→Value:=Pt.v
  let cf:Pt r S xs→Pt r S xs→Int:=fun p q=>(cmp (p.x,q.x)).getD 0
  have hcf: ∀p q,cmp (p.x,q.x)=some (cf p q):=fun p q=>by
   have:=hG.tot _ p.m _ q.m
   obtain⟨c,hc⟩:=Option.isSome_iff_exists.1 this
   show _=some ((cmp (p.x,q.x)).getD 0)
   rw [hc];rfl
  have hlt: ∀p q,ltOf cf p q=uU cmp p.x q.x:=fun p q=>by
   unfold ltOf uU;rw [hcf p q]
  have hO:SWO (ltOf cf):=⟨fun x=>by rw [hlt];exact hG.irr _ x.m,fun x y z a b=>by rw [hlt]at*;exact hG.tr _ x.m _ y.m _ z.m a b,fun x y z a b=>by rw [hlt]at*;exact hG.ntr x.m y.m z.m a b⟩
  have hblk:=(vT.1 hb).1
  have hcmp:CmpLays1 P g cb enc cf b 0 d.toArray.size w:=by
   intro m os dk hdk x y
   have hsat:jy (sortWorld enc w b 0 m dk os) S:=hs.same fun k o hk=>by
    have hkb:k≠b:=fun e=>by subst e;rw [hno]at hk;cases hk
    exact qj (hs.lt hk) hkb
   have:=hsp (x.x,y.x) _ (hcf x y) _ S [x.v,y.v] (SH.le_refl _) hsat ⟨⟨_,by unfold Rp.val;rw [hag];rfl,x.h⟩,⟨_,by unfold Rp.val;rw [hag];rfl,y.h⟩,trivial⟩
   refine this.mono fun e w' ⟨v,S'',he,hext,_,hv⟩=>⟨by rw [he,cZ.1 hv],Qf hext⟩
  have hsz:d.toArray.size=xs.length:=by simpa using hdl
  have hH:Holds enc w b 0 d.toArray:=by
   intro j hj
   have hj' :j<d.length:=by simpa using hj
   have hc:cur[j]? =some (enc d.toArray[j]!):=by
    have:(cur.toList.take xs.length)[j]? =some (enc d.toArray[j]!):=by
     rw [←Z3,AL,getElem!_pos d.toArray j hj]
     simp [hj',enc]
    rw [BZ (by omega)]at this
    simpa using this
   refine⟨by simp [World.cell?,hb,hc],?_⟩
   simp [World.frozen?,hb]
  have hcall:=Any.slices_SortFunc L enc (fun p=>r.one p.h _ (List.mem_singleton_self _)) cf hO g cb b 0 cap d.toArray w (fun args w=>ed hcal args w) hcmp hH hblk (by rw [hsz];have:=hG.len;omega)
  rw [hsz]at hcall
  refine hcall.mono fun e w' ⟨he,d',n,os,⟨hp1,_,hp2⟩,hso,hw⟩=>?_
  have hd's:d'.size=xs.length:=by rw [hp1,hsz]
  have hp3:d'.toList.Perm d:=by
   have e1:d'.extract 0 xs.length=d' :=by rw [←hd's];exact Array.extract_size
   have e2:d.toArray.extract 0 xs.length=d.toArray:=by rw [←hsz];exact Array.extract_size
   rw [e1,e2]at hp2
   simpa using hp2
  have hyd:ys=d'.toList.map Pt.x:=by
   have hp4:(d'.toList.map Pt.x).Perm xs:=by have:=hp3.map Pt.x;rwa [sd]at this
   refine List.Perm.eq_of_pairwise (le:=fun a b=>uU cmp b a=false) ?_ ?_ ?_ (hperm.trans hp4.symm)
   ·intro a c ha hc h5 h6
    exact hG.anti a (hperm.mem_iff.1 ha) c (hp4.mem_iff.1 hc) h6 h5
   ·rw [hys];exact wm hG xs fun y hy=>hy
   ·rw [List.pairwise_iff_getElem]
    intro i j hi hj hij
    have hj' :j<d'.size:=by simpa using hj
    have:=hso i j (lF _) hij (by omega)
    rw [hlt,getElem!_pos d' j hj',getElem!_pos d' i (by omega)]at this
    simpa using this
  subst hw
  refine⟨he,⟨rfl,rfl,rfl,Nat.le_add_right _ _,?_,fun k hk hkb=>qj hk (fun e=>hkb (by rw [e])),SH.le_refl _,fun _ _ _=>rfl⟩,hs.same fun k o hk=>?_,⟨_,⟨_,Bm hb,by omega,hmax,?_,rfl⟩,?_,hno0⟩,hlen⟩
  ·unfold sortWorld;rw [size_grow,size_putRow];exact Nat.le_add_right _ _
  ·have hkb:k≠b:=fun e=>by subst e;rw [hno]at hk;cases hk
   exact qj (hs.lt hk) hkb
  ·simp [putCells,h1,hcs]
  ·rw [h1,Nat.mul_one,hlen,←hd's,zz (by omega),hyd]
   exact Hm d'.toList

section
variable{rest:List Oper}
theorem FM(L:SlLaysF.n6 E.P ρ){f:FuncId}(hf:ρ.f 6=f)(hc:ak E.P f=true) [DecidableEq α](hag:r.agg=false){x y:Operand}{ats:Array TypeId}(hy' :zp cmp xs=some ys)(hx:aI E.N G x (tV (aR l cap n)))(hn:n=xs.length)(hy:aI E.N G y (dX E.P (fun p:α×α=>[tD r p.1,tD r p.2]) (tD (rI .i64)) cmp))(hd:Nat.blt d E.N.n=true)(k:ys.length=n→RG E ops Q rest (fj r T l cap ys::O) ((d,Dq)::G)):RG E ops Q (⟨some d,.call ⟨.value (.func f),#[x,y],ats⟩,ty,pos,after,none⟩::rest) (fj r T l cap xs::O) G:= .of rfl fun a w S st=>by
 subst hf
 subst hn
 have h1:a.eval x=aR l cap xs.length:=hx S a st.facts
 have hr:(execOp a.eval ⟨some d,.call ⟨.value (.func (ρ.f 6)),#[x,y],ats⟩,ty,pos,after,none⟩).run E.P w= .ok (.enter (ρ.f 6) #[aR l cap xs.length,a.eval y]) w:=by
  have e0:a.eval (.func (ρ.f 6))= .func (.func (ρ.f 6)) #[] #[]:=rfl
  simp [execOp,resolve,e0,h1,Deferred.ofValue,invoke,ed hc]
 refine⟨fun c h=>(by cases h),?_⟩
 rw [hr]
 refine(Q5 L hag st.sat st.own.1.1 (hy S a st.facts) hy').mono fun e w' ⟨he,hext,hsat,hp,hlen⟩=>⟨_,he,?_⟩
 have hfp: ∀g∈O,∀b,g.fp b→ ¬(l=some b):=fun g hg b hb hl=>st.own.2.1 g hg b hl hb
 refine k hlen _ _ S ⟨st.ext.step hext (fun c hc=>st.own.1.2 c hc),hsat,⟨⟨hp,st.own.1.2⟩,st.own.2.1,st.own.2.2.ext hext hfp⟩,?_⟩;exact(st.facts.mono hext.keep).put hd trivial
theorem o8{m:Nat}(hl:m=n)(s:Nat)(hs:de G s=some (tV (aR l cap n)))(k:RG E ops Q rest O ((s,tV (aR l cap m))::G)):RG E ops Q rest O G:=by
 subst hl
 exact fun a w S st=>k a w S ⟨st.ext,st.sat,st.own,⟨st.facts.size,st.facts.defers,fun j t h=>by
  unfold de at h
  by_cases hb:Nat.beq s j=true
  ·rw [hb]at h
   have:=oT hb
   subst this
   have e:tV (aR l cap m)=t:=by simpa using h
   rw [←e];exact st.facts.at_ s _ hs
  ·rw [xd]at hb
   rw [hb]at h
   exact st.facts.at_ j t h⟩⟩
end

theorem N4{k:IntKind}{S:SH}: ∀{xs:List Int} {cs:List Value},uT (rI k) S cs xs→cs=xs.map (Value.int k)
 |[],cs,h=>by rw [show cs=[]from h];rfl
 |x::xs,cs,⟨a,b,e,h1,h2⟩=>by
  rw [e,show a=[.int k x]from h1,N4 h2]
  rfl
theorem Ou{k:IntKind}{S:SH}: ∀xs:List Int,uT (rI k) S (xs.map (Value.int k)) xs
 |[]=>rfl
 |x::xs=>⟨[.int k x],_,rfl,rfl,Ou xs⟩
theorem PB{P:Program}(L:Lays.n189 P ρ){xs:List Int}(hlen0:xs.length≤68719476736)(hs:jy w S)(h:(fj (rI .i64) T l cap xs).p w S):
  Calls P (ρ.f 189) #[aR l cap xs.length] w fun e w' =>e= .returned (.tuple #[])∧fY (fun k=>l=some k) w S w' S∧jy w' S∧(fj (rI .i64) T l cap (sortI xs)).p w' S:=by
 cases l with
 |none=>
  have hx:xs=[]:=uf (by obtain⟨_,h4,_⟩:=h;exact h4.1)
  subst hx
  exact(Any.slices_Sort_int_none (P:=P) (ρ:=ρ) L none 0 w).mono fun _ _ ⟨h1,h2⟩=>by subst h2;exact⟨h1,fY.refl _ _ _,hs,by simpa [sortI] using h⟩
 |some b=>
  obtain⟨cells0,⟨cur,hb,hle,hmax,hcs,hct⟩,hrc,hno0⟩:=h
  have hno:S b=none:=hno0 b rfl
  subst hct
  have h1:(rI .i64).sz=1:=rfl
  rw [h1,Nat.mul_one]at hcs hrc
  have hcells:=N4 hrc
  have hH:Holds (Value.int .i64) w b 0 xs.toArray:=by
   intro j hj
   have hj' :j<xs.length:=by simpa using hj
   have hc:cur[j]? =some (Value.int .i64 xs.toArray[j]!):=by
    have:(cur.toList.take xs.length)[j]? =some (Value.int .i64 xs.toArray[j]!):=by
     rw [hcells,AL,getElem!_pos xs.toArray j hj]
     simp [hj']
    rw [BZ (by omega)]at this
    simpa using this
   refine⟨by simp [World.cell?,hb,hc],?_⟩
   simp [World.frozen?,hb]
  have hblk:=(vT.1 hb).1
  have hcall:=calls_of_every_depth fun D=>AnyS.slices_Sort_int_alone (P:=P) (ρ:=ρ) L D b 0 cap xs w hH hblk (by omega)
  refine hcall.mono fun e w' ⟨he,n,os,hw⟩=>?_
  have hlen:=B6 xs
  have hw2:w' =sortWorld (Value.int .i64) w b 0 n (sortI xs).toArray os:=hw
  subst hw2
  refine⟨he,⟨rfl,rfl,rfl,Nat.le_add_right _ _,?_,fun k hk hkb=>qj hk (fun e=>hkb (by rw [e])),SH.le_refl _,fun _ _ _=>rfl⟩,hs.same fun k o hk=>?_,⟨_,⟨_,Bm hb,by omega,hmax,?_,rfl⟩,?_,hno0⟩⟩
  ·unfold sortWorld;rw [size_grow,size_putRow];exact Nat.le_add_right _ _
  ·have hkb:k≠b:=fun e=>by subst e;rw [hno]at hk;cases hk
   exact qj (hs.lt hk) hkb
  ·simp [putCells,h1,hcs]
  ·have e1:(sortI xs).length*(rI .i64).sz=(sortI xs).toArray.size:=by rw [h1];simp
   rw [e1,zz (by simp;omega)]
   exact Ou (sortI xs)
section
variable{rest:List Oper}
theorem S7(L:Lays.n189 E.P ρ){f:FuncId}(hf:ρ.f 189=f)(hc:ak E.P f=true){xs ys:List Int}{x:Operand}{ats:Array TypeId}(hy:Em xs=some ys)(hx:aI E.N G x (tV (aR l cap n)))(hn:n=xs.length)(hd:Nat.blt d E.N.n=true)(k:ys.length=n→RG E ops Q rest (fj (rI .i64) T l cap ys::O) ((d,Dq)::G)):RG E ops Q (⟨some d,.call ⟨.value (.func f),#[x],ats⟩,ty,pos,after,none⟩::rest) (fj (rI .i64) T l cap xs::O) G:= .of rfl fun a w S st=>by
 obtain⟨hl0,rfl⟩:=JM hy
 subst hf
 subst hn
 have h1:a.eval x=aR l cap xs.length:=hx S a st.facts
 have hr:(execOp a.eval ⟨some d,.call ⟨.value (.func (ρ.f 189)),#[x],ats⟩,ty,pos,after,none⟩).run E.P w= .ok (.enter (ρ.f 189) #[aR l cap xs.length]) w:=by
  have e0:a.eval (.func (ρ.f 189))= .func (.func (ρ.f 189)) #[] #[]:=rfl
  simp [execOp,resolve,e0,h1,Deferred.ofValue,invoke,ed hc]
 refine⟨fun c h=>(by cases h),?_⟩
 rw [hr]
 refine(PB L hl0 st.sat st.own.1.1).mono fun e w' ⟨he,hext,hsat,hp⟩=>⟨_,he,?_⟩
 have hfp: ∀g∈O,∀b,g.fp b→ ¬(l=some b):=fun g hg b hb hl=>st.own.2.1 g hg b hl hb
 refine k (B6 xs) _ _ S ⟨st.ext.step hext (fun c hc=>st.own.1.2 c hc),hsat,⟨⟨hp,st.own.1.2⟩,st.own.2.1,st.own.2.2.ext hext hfp⟩,?_⟩;exact(st.facts.mono hext.keep).put hd trivial
end
end Go.Proofs.YtfhhakidodmdfaaGreatDoor

