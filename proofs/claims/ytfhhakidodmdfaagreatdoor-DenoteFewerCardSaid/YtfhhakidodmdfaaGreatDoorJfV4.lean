/- cU of this claim: W57, W44, W55, W15, W29. -/
import Derived.Test.YtfhhakidodmdfaaGreatDoorJfV3
import Derived.Test.YtfhhakidodmdfaaGreatDoorJfV1
import Derived.Shelf.SlSortCmp.NoneTotal
import Derived.Test.YtfhhakidodmdfaaGreatDoorJfV2
import Derived.Shelf.Slices.In.SortNone
set_option linter.all false
namespace Go.Proofs.YtfhhakidodmdfaaGreatDoor
open Go

variable{α:Type}
theorem J{α:Sort _}{a:α}:a=a:=rfl
theorem aS:True:=trivial
abbrev bN(x:Int):Ty:=tD (rI .i64) x
abbrev iO(x:Bool):Ty:=tD rB x
abbrev jr{α:Type}(l:List α):Ty:=tD (rI .i64) (l.length:Int)
abbrev od:Rp (List Int):=gi (rI .i64)
abbrev mK(l:List Int):Ty:=tD (gi (rI .i64)) l
abbrev bW{α:Type}(r:Rp α)(l:List α):Ty:=tD (gi r) l
abbrev sH{α:Type}(l:Option Nat)(c:Nat)(xs:List α):Ty:=tV (aT l c xs.length)
variable{G:nm}{p:Nat}
theorem bu: ∀{G' G:nm},G'.map (fun p=>dn G p.1)=G'.map (fun p=>some p.2)→MM G' G
 |[],_,_=>trivial
 |(_,_)::_,_,h=>⟨(GY h).1,bu (GY h).2⟩

variable{E:En}{O:List OE}{T:TypeId}{after:Array Edge}{b:Bool}{c i k n off:Nat}{pos:String}{r:Rp α}{sz:Nat}{t:Ty}{ty:TypeId}{xs:List α}{y:Code}
section
variable{dst:Option Tmp}{g:Option (Nat×Bool)}
theorem de{x:Nat}(h:dn G x=some t):bR E O G ⟨dst,.move (.tmp x),ty,pos,after,g⟩ t:=bE (ht h)
theorem vx{x:Nat}(h:dn G x=some t):bR E O G ⟨dst,.assign (.tmp x),ty,pos,after,g⟩ t:=aM (ht h)
theorem cy{k:IntKind}{n:Int}:bR E O G ⟨dst,.assign (.const (.int k n)),ty,pos,after,g⟩ (tD (rI k) n):=aM hI
theorem jy:bR E O G ⟨dst,.assign (.const (.bool b)),ty,pos,after,g⟩ (tD rB b):=aM hB
theorem bC{x:α}{U:TypeId}{bytes:Nat}{agg:Bool}{z:List Value}(ti:TI E.P U sz bytes agg z)(hp:dn G p=some (bM r x))(hs:(r.sz,r.agg)=(sz,agg)):
  bR E O G ⟨dst,.load U (.tmp p),ty,pos,after,g⟩ (tD r x):=bI ti (Prod.mk.inj hs).1 (Prod.mk.inj hs).2 (ht hp)
theorem c9{β:Type}{q:Rp β}{get:α→β}{x:α}(hf:cV E.P T i=some (off,sz))(hq:qH r off q get)(hp:dn G p=some (bM r x))(h0:(!(Nat.beq sz 0)&&Nat.ble (off+q.sz) r.sz)=true):bR E O G ⟨dst,.fieldAddr T (.tmp p) i,ty,pos,after,g⟩ (bM q (get x)):=
 qm hf (by cases h:Nat.beq sz 0<;>simp [h]at h0 ⊢) hq (by revert h0;cases Nat.ble (off+q.sz) r.sz<;>simp) (ht hp)
theorem i7{x:Nat}{t e:TypeId}(hu:E.P.underlying t=some (.slice e))(hx:dn G x=some (tD (gi r) xs)):
  bR E O G ⟨dst,.call ⟨.builtin .len,#[.tmp x],#[t]⟩,ty,pos,after,g⟩ (tD (rI .i64) (xs.length:Int)):=cC hu (ht hx)
theorem gE{ts:List Ty}{x:Nat}(hi:ts[i]? =some t)(hx:dn G x=some (tT ts)):bR E O G ⟨dst,.extract (.tmp x) i,ty,pos,after,g⟩ t:=Nw hi (ht hx)
theorem js{v:α}{x:Nat}(hx:dn G x=some (tD r v)):bR E O G ⟨dst,.box T (.tmp x),ty,pos,after,g⟩ (bM r v):=Nx (ht hx)
theorem vn{x:Nat}{q:Bool}(hc:dn G c=some (tD rB b))(hx:dn G x=some (pz b (tD rB q))):bR E O G ⟨dst,.pick (.tmp c) (.tmp x) (.const (.bool false)),ty,pos,after,g⟩ (tD rB (b&&q)):=q7 (ht hc) (fun hb=>bG hx hb)
theorem xf{x:Nat}{q:Bool}(hc:dn G c=some (tD rB b))(hx:dn G x=some (pz (!b) (tD rB q))):bR E O G ⟨dst,.pick (.tmp c) (.const (.bool true)) (.tmp x),ty,pos,after,g⟩ (tD rB (b||q)):=zb (ht hc) (fun hb=>bG hx (wK hb))
variable{xt yt:TypeId}{x y:Nat}{k:IntKind}{m n:Int}
theorem fF(hx:dn G x=some (tD (rI k) m))(hy:dn G y=some (tD (rI k) n)):bR E O G ⟨dst,.binOp .lss xt (.tmp x) (.tmp y) yt,ty,pos,after,g⟩ (tD rB (decide (m<n))):=gx (ht hx) (ht hy)
theorem nX{j:IntKind}(hx:dn G x=some (tD (rI j) m)):bR E O G ⟨dst,.binOp .eql xt (.tmp x) (.const (.int j n)) yt,ty,pos,after,g⟩ (tD rB (m==n)):=dx (ht hx) hI
theorem s8{j:IntKind}(hx:dn G x=some (tD (rI j) m)):bR E O G ⟨dst,.binOp .neq xt (.tmp x) (.const (.int j n)) yt,ty,pos,after,g⟩ (tD rB (m !=n)):=ft (ht hx) hI
theorem mz{y:α}{x ix:Nat}{t e:TypeId}{k:IntKind}{i:Int}{bytes:Nat}{agg:Bool}{z:List Value}(hu:E.P.underlying t=some (.slice e))(ti:TI E.P e sz bytes agg z)(hsz:r.sz=sz)(hx:dn G x=some (tD (gi r) xs))(hi:dn G ix=some (tD (rI k) i))(hy:cN xs i=some y):
  bR E O G ⟨dst,.indexAddr t (.tmp x) (.tmp ix),ty,pos,after,g⟩ (bM r y):=br hu ti hsz (ht hx) (ht hi) hy
theorem lT{x:Nat}{xt yt:TypeId}(hi:i<9223372036854775807)(hx:dn G x=some (tD (rI .i64) (i:Int))):
  bR E O G ⟨dst,.binOp .add xt (.tmp x) (.const (.int .i64 1)) yt,ty,pos,after,g⟩ (tD (rI .i64) ((i+1:Nat):Int)):=Bw hi (ht hx) hI
theorem jY{b o:Nat}(n:Nat)(hf:cV E.P T i=some (off,sz))(h0:Nat.beq sz 0=false)(hp:dn G p=some (tV (aO b o)))(he:o+off=n):bR E O G ⟨dst,.fieldAddr T (.tmp p) i,ty,pos,after,g⟩ (tV (aO b n)):=pf (n:=n) hf h0 (ht hp) he
end
variable{Q:Exit→Act→World→Prop}{d:Nat}{l:Option Nat}{op:Op}{ops:Array Oper}
section
variable{l:List Oper}
theorem zo(hd:Nat.blt d E.N.n=true)(h:bR E O G ⟨some d,op,ty,pos,after,none⟩ t)(k:RG E ops Q l O ((d,t)::G)):
  RG E ops Q (⟨some d,op,ty,pos,after,none⟩::l) O G:=qF h hd k
def Xs(n d:Nat)(r:Option Ty):Option Ty:=if Nat.blt d n then r else none
theorem lA{r:Option Ty}(h:Xs n d r=some t):Nat.blt d n=true∧r=some t:=by
 unfold Xs at h;split at h
 case isTrue h1=>exact⟨h1,h⟩
 case isFalse=>cases h
theorem aG{x:Nat}(h:Xs E.N.n d (dn G x)=some t)(k:RG E ops Q l O ((d,t)::G)):
  RG E ops Q (⟨some d,.move (.tmp x),ty,pos,after,none⟩::l) O G:=qF (bE (ht (lA h).2)) (lA h).1 k
theorem bq{x:Nat}(h:Xs E.N.n d (dn G x)=some t)(k:RG E ops Q l O ((d,t)::G)):
  RG E ops Q (⟨some d,.assign (.tmp x),ty,pos,after,none⟩::l) O G:=qF (aM (ht (lA h).2)) (lA h).1 k
theorem av(h:CG E Q y O G):RG E ops (Exit.then (y.wpIn (fw E.r) 0 E.P Q) Q) [] O G:=aP (ax h)
theorem aw{id:Nat}{l:List Oper}(h:RG E l.toArray (Exit.then (y.wpIn (fw E.r) 0 E.P Q) Q) l O G):CG E Q (.seq (.region id l.toArray false) y) O G:=ah (au h)
theorem c0{β:Type _}{X Y:Option β}{r:β}{x:Code}(h:(if b=true then X else Y)=some r)(hb:dn G c=some (tD rB b))(hx:X=some r→CG E Q x O G)(hy:Y=some r→CG E Q y O G):CG E Q (.cond (.tmp c) x y) O G:=
 pu (ht hb) (fun hc=>hx (ct h hc)) (fun hc=>hy (cf h hc))
theorem dP(h:CG E Q y O G):CG E (Exit.then (y.wpIn (fw E.r) 0 E.P Q) Q) .skip O G:=bA (ax h)
theorem dN{j gs:Nat}(hj:(ops[j]?).bind (·.dst)=some gs)(hg:Xs E.N.n gs (Xs E.N.n d (dn G gs))=some (tD rB b))(h:b=true→bR E O G ⟨some d,op,ty,pos,after,some (j,true)⟩ t)(k:RG E ops Q l O ((d,pz b t)::G)):RG E ops Q (⟨some d,op,ty,pos,after,some (j,true)⟩::l) O G:=WX hj (lA hg).1 (lA (lA hg).2).2 (lA (lA hg).2).1 h k
theorem eG{j gs:Nat}(hj:(ops[j]?).bind (·.dst)=some gs)(hg:Xs E.N.n gs (Xs E.N.n d (dn G gs))=some (tD rB b))(h:(!b)=true→bR E O G ⟨some d,op,ty,pos,after,some (j,false)⟩ t)(k:RG E ops Q l O ((d,pz (!b) t)::G)):RG E ops Q (⟨some d,op,ty,pos,after,some (j,false)⟩::l) O G:=WY hj (lA hg).1 (lA (lA hg).2).2 (lA (lA hg).2).1 h k
end
theorem bB{α:Type _}{β:Type _}{x:Option α}{k:α→Option β}{r:β}{P:Prop}(h:x.bind k=some r)(f: ∀y,x=some y→k y=some r→P):P:=by
 obtain⟨y,h1,h2⟩:=bs h;exact f y h1 h2
variable{u u1:Ty}
section
variable{l:List Oper}{ts:List Ty}{o:Oper}
theorem D5{a c:Bool}(h:(a&&b&&c)=true):a=true∧b=true∧c=true:=by revert h;cases a<;>cases b<;>cases c<;>simp
theorem isn{x:Option α}(h:x.isNone=true):x=none:=by cases x;rfl;cases h
theorem Qg(h:ts[i]? =some t)(hb:(eN i o&&o.guard.isNone)=true)(k:bR E O [] o t): ∃(needs:List Nd) (t:Ty),ts[i]? =some t∧uz G ts needs∧(needs.all (qf l o i))=true∧eN i o=true∧cm E O l.toArray (ki needs) o t:=
 ⟨[],t,h,trivial,rfl,(Dc.1 hb).1,aC (isn (Dc.1 hb).2) k⟩
theorem eH(a:Nat)(h:ts[i]? =some t)(hu:yN G ts ⟨a,u,none⟩)(hb:([(⟨a,u,none⟩:Nd)].all (qf l o i)&&eN i o&&o.guard.isNone)=true)(k:bR E O [(a,u)] o t): ∃(needs:List Nd) (t:Ty),ts[i]? =some t∧uz G ts needs∧(needs.all (qf l o i))=true∧eN i o=true∧cm E O l.toArray (ki needs) o t:=
 ⟨[(⟨a,u,none⟩:Nd)],t,h,⟨hu,trivial⟩,(D5 hb).1,(D5 hb).2.1,aC (isn (D5 hb).2.2) k⟩
theorem bZ(a:Nat)(j:Nat)(h:ts[i]? =some t)(hu:yN G ts ⟨a,u,(some j)⟩)(hb:([(⟨a,u,(some j)⟩:Nd)].all (qf l o i)&&eN i o&&o.guard.isNone)=true)(k:bR E O [(a,u)] o t): ∃(needs:List Nd) (t:Ty),ts[i]? =some t∧uz G ts needs∧(needs.all (qf l o i))=true∧eN i o=true∧cm E O l.toArray (ki needs) o t:=
 ⟨[(⟨a,u,(some j)⟩:Nd)],t,h,⟨hu,trivial⟩,(D5 hb).1,(D5 hb).2.1,aC (isn (D5 hb).2.2) k⟩
theorem qN(a:Nat)(a1:Nat)(j1:Nat)(h:ts[i]? =some t)(hu:yN G ts ⟨a,u,none⟩)(hu1:yN G ts ⟨a1,u1,(some j1)⟩)(hb:([(⟨a,u,none⟩:Nd),⟨a1,u1,(some j1)⟩].all (qf l o i)&&eN i o)=true)(k:cm E O l.toArray [(a,u),(a1,u1)] o t): ∃(needs:List Nd) (t:Ty),ts[i]? =some t∧uz G ts needs∧(needs.all (qf l o i))=true∧eN i o=true∧cm E O l.toArray (ki needs) o t:=
 ⟨[(⟨a,u,none⟩:Nd),⟨a1,u1,(some j1)⟩],t,h,⟨hu,hu1,trivial⟩,(Dc.1 hb).1,(Dc.1 hb).2,k⟩
theorem d3(a:Nat)(j:Nat)(a1:Nat)(j1:Nat)(h:ts[i]? =some t)(hu:yN G ts ⟨a,u,(some j)⟩)(hu1:yN G ts ⟨a1,u1,(some j1)⟩)(hb:([(⟨a,u,(some j)⟩:Nd),⟨a1,u1,(some j1)⟩].all (qf l o i)&&eN i o&&o.guard.isNone)=true)(k:bR E O [(a,u),(a1,u1)] o t): ∃(needs:List Nd) (t:Ty),ts[i]? =some t∧uz G ts needs∧(needs.all (qf l o i))=true∧eN i o=true∧cm E O l.toArray (ki needs) o t:=
 ⟨[(⟨a,u,(some j)⟩:Nd),⟨a1,u1,(some j1)⟩],t,h,⟨hu,hu1,trivial⟩,(D5 hb).1,(D5 hb).2.1,aC (isn (D5 hb).2.2) k⟩
theorem k7(a:Nat)(j:Nat)(a1:Nat)(j1:Nat)(h:ts[i]? =some t)(hu:yN G ts ⟨a,u,(some j)⟩)(hu1:yN G ts ⟨a1,u1,(some j1)⟩)(hb:([(⟨a,u,(some j)⟩:Nd),⟨a1,u1,(some j1)⟩].all (qf l o i)&&eN i o)=true)(k:cm E O l.toArray [(a,u),(a1,u1)] o t): ∃(needs:List Nd) (t:Ty),ts[i]? =some t∧uz G ts needs∧(needs.all (qf l o i))=true∧eN i o=true∧cm E O l.toArray (ki needs) o t:=
 ⟨[(⟨a,u,(some j)⟩:Nd),⟨a1,u1,(some j1)⟩],t,h,⟨hu,hu1,trivial⟩,(Dc.1 hb).1,(Dc.1 hb).2,k⟩
theorem De(a:Nat)(j:Nat)(a1:Nat)(j1:Nat)(a2:Nat)(j2:Nat){u2:Ty}(h:ts[i]? =some t)(hu:yN G ts ⟨a,u,(some j)⟩)(hu1:yN G ts ⟨a1,u1,(some j1)⟩)(hu2:yN G ts ⟨a2,u2,(some j2)⟩)(hb:([(⟨a,u,(some j)⟩:Nd),⟨a1,u1,(some j1)⟩,⟨a2,u2,(some j2)⟩].all (qf l o i)&&eN i o&&o.guard.isNone)=true)(k:bR E O [(a,u),(a1,u1),(a2,u2)] o t): ∃(needs:List Nd) (t:Ty),ts[i]? =some t∧uz G ts needs∧(needs.all (qf l o i))=true∧eN i o=true∧cm E O l.toArray (ki needs) o t:=
 ⟨[(⟨a,u,(some j)⟩:Nd),⟨a1,u1,(some j1)⟩,⟨a2,u2,(some j2)⟩],t,h,⟨hu,hu1,hu2,trivial⟩,(D5 hb).1,(D5 hb).2.1,aC (isn (D5 hb).2.2) k⟩
theorem uF(a:Nat)(j:Nat)(a1:Nat)(j1:Nat)(a2:Nat)(j2:Nat){u2:Ty}(h:ts[i]? =some t)(hu:yN G ts ⟨a,u,(some j)⟩)(hu1:yN G ts ⟨a1,u1,(some j1)⟩)(hu2:yN G ts ⟨a2,u2,(some j2)⟩)(hb:([(⟨a,u,(some j)⟩:Nd),⟨a1,u1,(some j1)⟩,⟨a2,u2,(some j2)⟩].all (qf l o i)&&eN i o)=true)(k:cm E O l.toArray [(a,u),(a1,u1),(a2,u2)] o t): ∃(needs:List Nd) (t:Ty),ts[i]? =some t∧uz G ts needs∧(needs.all (qf l o i))=true∧eN i o=true∧cm E O l.toArray (ki needs) o t:=
 ⟨[(⟨a,u,(some j)⟩:Nd),⟨a1,u1,(some j1)⟩,⟨a2,u2,(some j2)⟩],t,h,⟨hu,hu1,hu2,trivial⟩,(Dc.1 hb).1,(Dc.1 hb).2,k⟩
end

def vh{α:Type}(cmp:α×α→Option Int)(x y:α):Bool:=
 match cmp (x,y)with
 |some c=>decide (c<0)
 |none=>false
def I5{α:Type}(lt:α→α→Bool)(x:α):List α→List α
 |[]=>[x]
 |y::ys=>if lt y x then y::I5 lt x ys else x::y::ys
def Ab{α:Type}(lt:α→α→Bool):List α→List α
 |[]=>[]
 |x::xs=>I5 lt x (Ab lt xs)
structure AW{α:Type}(cmp:α×α→Option Int)(xs:List α):Prop where
 len:xs.length≤1099511627776
 tot: ∀x∈xs,∀y∈xs,(cmp (x,y)).isSome=true
 irr: ∀x∈xs,vh cmp x x=false
 tr: ∀x∈xs,∀y∈xs,∀z∈xs,vh cmp x y=true→vh cmp y z=true→vh cmp x z=true
 anti: ∀x∈xs,∀y∈xs,vh cmp x y=false→vh cmp y x=false→x=y
def SB{α:Type} [DecidableEq α](cmp:α×α→Option Int)(xs:List α):Bool:=
 decide (xs.length≤1099511627776)&&xs.all (fun x=>xs.all fun y=>(cmp (x,y)).isSome)&&xs.all (fun x=> !vh cmp x x)&&
  xs.all (fun x=>xs.all fun y=>xs.all fun z=> !(vh cmp x y&&vh cmp y z)||vh cmp x z)&&xs.all (fun x=>xs.all fun y=>vh cmp x y||vh cmp y x||decide (x=y))
variable{cmp:α×α→Option Int}
theorem Lx [DecidableEq α]:SB cmp xs=true↔AW cmp xs:=by
 unfold SB
 simp only [my,jW,pZ,DM,kM,Bool.and_eq_false_imp]
 constructor
 ·rintro⟨⟨⟨⟨h1,h2⟩,h3⟩,h4⟩,h5⟩
  refine⟨h1,h2,h3,fun x hx y hy z hz a b=>?_,fun x hx y hy a b=>?_⟩
  ·rcases h4 x hx y hy z hz with h|h
   ·rw [h a]at b;cases b
   ·exact h
  ·rcases h5 x hx y hy with(h|h)|h
   ·rw [h]at a;cases a
   ·rw [h]at b;cases b
   ·exact h
 ·rintro⟨h1,h2,h3,h4,h5⟩
  refine⟨⟨⟨⟨h1,h2⟩,h3⟩,fun x hx y hy z hz=>?_⟩,fun x hx y hy=>?_⟩
  ·cases h6:vh cmp x y with
   |false=>exact .inl (fun h=>by cases h)
   |true=>
    cases h7:vh cmp y z with
    |false=>exact .inl (fun _=>rfl)
    |true=>exact .inr (h4 x hx y hy z hz h6 h7)
  ·cases h6:vh cmp x y with
   |true=>exact .inl (.inl rfl)
   |false=>
    cases h7:vh cmp y x with
    |true=>exact .inl (.inr rfl)
    |false=>exact .inr (h5 x hx y hy h6 h7)
def zX{α:Type} [DecidableEq α](cmp:α×α→Option Int)(xs:List α):Option (List α):=if SB cmp xs then some (Ab (vh cmp) xs)else none
variable{ys:List α}
theorem MN [DecidableEq α](h:zX cmp xs=some ys):AW cmp xs∧ys=Ab (vh cmp) xs:=by
 unfold zX at h
 split at h
 ·exact⟨Lx.1 (by assumption),by simpa using h.symm⟩
 ·cases h
theorem EQ [DecidableEq α](h:AW cmp xs):zX cmp xs=some (Ab (vh cmp) xs):=aY (Lx.2 h)
def sortI(xs:List Int):List Int:=xs.mergeSort fun x y=>decide (x≤y)
theorem Cn(xs:List Int):(sortI xs).length=xs.length:=by unfold sortI;simp
def EP(xs:List Int):Option (List Int):=if xs.length≤68719476736 then some (sortI xs)else none
theorem Kr{xs ys:List Int}(h:EP xs=some ys):xs.length≤68719476736∧ys=sortI xs:=by
 unfold EP at h
 split at h
 ·exact⟨by assumption,by simpa using h.symm⟩
 ·cases h

theorem CB{α:Type}(lt:α→α→Bool)(x:α): ∀l:List α,(I5 lt x l).Perm (x::l)
 |[]=> .refl _
 |y::ys=>by
  unfold I5
  split
  ·exact((CB lt x ys).cons y).trans (.swap ..)
  ·exact .refl _
theorem ub{α:Type}(lt:α→α→Bool): ∀l:List α,(Ab lt l).Perm l
 |[]=> .refl _
 |x::xs=>(CB lt x _).trans ((ub lt xs).cons x)
theorem AW.ntr(h:AW cmp xs){x y z:α}(hx:x∈xs)(hy:y∈xs)(hz:z∈xs)(h1:vh cmp x y=false)(h2:vh cmp y z=false):vh cmp x z=false:=by
 cases h3:vh cmp x z with
 |false=>rfl
 |true=>
  cases h4:vh cmp y x with
  |true=>rw [h.tr y hy x hx z hz h4 h3]at h2;cases h2
  |false=>
   have:=h.anti x hx y hy h1 h4
   subst this
   rw [h3]at h2;cases h2
theorem AW.asym(h:AW cmp xs){x y:α}(hx:x∈xs)(hy:y∈xs)(h1:vh cmp x y=true):vh cmp y x=false:=by
 cases h3:vh cmp y x with
 |false=>rfl
 |true=>have:=h.tr x hx y hy x hx h1 h3;rw [h.irr x hx]at this;cases this
theorem Dt{α:Type}{cmp:α×α→Option Int}{xs:List α}(h:AW cmp xs){x:α}(hx:x∈xs): ∀l:List α,(∀y∈l,y∈xs)→l.Pairwise (fun a b=>vh cmp b a=false)→(I5 (vh cmp) x l).Pairwise (fun a b=>vh cmp b a=false)
 |[],_,_=>List.pairwise_singleton _ _
 |y::ys,hm,hp=>by
  have hy:=hm y (kZ ..)
  rw [Cf]at hp
  unfold I5
  split
  ·rename_i hlt
   rw [Cf]
   refine⟨fun z hz=>?_,Dt h hx ys (fun z hz=>hm z (kN _ hz)) hp.2⟩
   rcases fx.1 ((CB _ x ys).mem_iff.1 hz)with e|e
   ·subst e;exact h.asym hy hx hlt
   ·exact hp.1 z e
  ·rename_i hlt
   rw [Al]at hlt
   refine Cf.2 ⟨fun z hz=>?_,Cf.2 hp⟩
   rcases fx.1 hz with e|e
   ·subst e;exact hlt
   ·exact h.ntr (hm z hz) hy hx (hp.1 z e) hlt
theorem wN{α:Type}{cmp:α×α→Option Int}{xs:List α}(h:AW cmp xs): ∀l:List α,(∀y∈l,y∈xs)→(Ab (vh cmp) l).Pairwise (fun a b=>vh cmp b a=false)
 |[],_=>List.Pairwise.nil
 |x::ys,hm=>Dt h (hm x (kZ ..)) _ (fun y hy=>hm y (kN _ ((ub _ ys).mem_iff.1 hy))) (wN h ys fun y hy=>hm y (kN _ hy))
open Go.Sort Go.Shelf

structure Qb{α:Type}(r:Rp α)(S:SH)(XS:List α):Type where
 v:Value
 x:α
 h:r.rc S [v] x
 m:x∈XS
variable{S:SH}
theorem aaT{α:Type}{r:Rp α}(h1:r.sz=1){S:SH}{XS:List α}: ∀{xs:List α} {cs:List Value},vf r S cs xs→(∀x∈xs,x∈XS)→ ∃d:List (Qb r S XS),d.map Qb.v=cs∧d.map Qb.x=xs
 |[],cs,h,_=>⟨[],by rw [show cs=[]from h];rfl,rfl⟩
 |x::xs,cs,⟨a,b,e,h2,h3⟩,hm=>by
  obtain⟨d,e1,e2⟩:=aaT h1 h3 fun y hy=>hm y (kN _ hy)
  have hl:=r.len h2
  rw [h1]at hl
  obtain⟨v,rfl⟩:=List.length_eq_one_iff.1 hl
  exact⟨⟨v,x,h2,hm x (kZ ..)⟩::d,by rw [e,vt,e1];rfl,by rw [vt,e2]⟩
theorem HM{α:Type}{r:Rp α}{S:SH}{XS:List α}: ∀d:List (Qb r S XS),vf r S (d.map Qb.v) (d.map Qb.x)
 |[]=>rfl
 |p::d=>⟨[p.v],_,rfl,p.h,HM d⟩
variable{os:Array Obj}{w:World}
theorem BG(h:k<w.heap.size):(grow w os).heap[k]? =w.heap[k]? :=by
 unfold grow;exact Array.getElem?_append_left h
variable{enc:α→Value}
theorem Lw [Inhabited α]{b:Nat}{d:Array α}(h:k≠b):(putRow enc w b off d).heap[k]? =w.heap[k]? :=by
 unfold putRow mapBlock
 rw [Array.getElem?_modify,aK (Ne.symm h)]
theorem qt [Inhabited α]{b m:Nat}{d:Array α}(hk:k<w.heap.size)(h:k≠b):(sortWorld enc w b off m d os).heap[k]? =w.heap[k]? :=by
 unfold sortWorld
 rw [BG (by rw [size_putRow];exact hk),Lw h];rfl
theorem BF [Inhabited α]{b m:Nat}{d:Array α}{c:Array Value}{fr:Nat×Nat}(h:w.heap[b]? =some (.cells c T fr)):
  (sortWorld enc w b off m d os).heap[b]? =some (.cells (putCells enc off d c) T fr):=by
 have hlt:=(wp.1 h).1
 unfold sortWorld
 rw [BG (by rw [size_putRow];exact hlt)]
 unfold putRow mapBlock
 rw [Array.getElem?_modify,aY rfl]
 show Option.map _ (w.heap[b]?)=_
 rw [h];rfl
theorem Aa [Inhabited α]{d:Array α}{c:Array Value}(h:d.size≤c.size):(putCells enc 0 d c).toList.take d.size=d.toList.map enc:=by
 apply JT
 intro k
 by_cases hk:k<d.size
 ·rw [Ch hk]
  have hc:k<c.size:=by omega
  simp [putCells,hc,hk]
 ·rw [Ez (by simp;omega),Ez (by simp;omega)]
theorem QQ{w' :World}{S' :SH}(h:gn p9 w S w' S'): ∃q os,w' =grow (w.drewN q) os:=by
 refine⟨w'.drawn-w.drawn,w'.heap.extract w.heap.size w'.heap.size,?_⟩
 obtain⟨hp,t,dr,os,out⟩:=w'
 have h1:hp=w.heap++hp.extract w.heap.size hp.size:=by
  apply Array.ext_getElem?
  intro k
  have hs:=h.size
  simp only at hs
  by_cases hk:k<w.heap.size
  ·rw [Array.getElem?_append_left hk];exact h.heap k hk (fun h=>h)
  ·rw [Array.getElem?_append_right (by omega),Array.getElem?_extract]
   split
   ·congr 1;omega
   ·rename_i hlt
    rw [Array.getElem?_eq_none];omega
 have h2:=h.os;have h3:=h.tape;have h4:=h.output;have h5:=h.drawn
 simp only at h2 h3 h4 h5
 subst h2 h3 h4
 unfold grow World.drewN
 simp only
 congr 1
 omega

variable{cap:Nat}{ρ:Ren}
theorem RL{P:Program}(L:SlLaysF.n6 P ρ) [DecidableEq α](hag:r.agg=false){fv:Value}(hs:jL w S)(h:(fE r T l cap xs).p w S)(hfv:(dR P (fun p:α×α=>[tD r p.1,tD r p.2]) (tD (rI .i64)) cmp).p S fv)(hy:zX cmp xs=some ys):
  Calls P (ρ.f 6) #[aT l cap xs.length,fv] w fun e w' =>e= .returned (.tuple #[])∧gn (fun k=>l=some k) w S w' S∧jL w' S∧(fE r T l cap ys).p w' S∧ys.length=xs.length:=by
 obtain⟨hG,hys⟩:=MN hy
 have hperm:ys.Perm xs:=by rw [hys];exact ub _ xs
 have hlen:=hperm.length_eq
 have none' :xs=[]→Calls P (ρ.f 6) #[aT l cap xs.length,fv] w fun e w' =>e= .returned (.tuple #[])∧gn (fun k=>l=some k) w S w' S∧jL w' S∧(fE r T l cap ys).p w' S∧ys.length=xs.length:=by
  intro hx
  subst hx
  have e:ys=[]:=by rw [hys];rfl
  subst e
  cases l with
  |none=>exact(AnyF.slices_SortFunc_none (P:=P) (ρ:=ρ) {L with} none 0 fv w).mono fun _ _ ⟨h1,h2⟩=>by subst h2;exact⟨h1,gn.refl _ _ _,hs,h,rfl⟩
  |some b=>exact(AnyF.slices_SortFunc_none (P:=P) (ρ:=ρ) {L with} (some ⟨b,0,none⟩) cap fv w).mono fun _ _ ⟨h1,h2⟩=>by subst h2;exact⟨h1,gn.refl _ _ _,hs,h,rfl⟩
 cases l with
 |none=>exact none' (uD (by obtain⟨_,h4,_⟩:=h;exact h4.1))
 |some b=>
  obtain⟨cells0,⟨cur,hb,hle,hmax,hcs,hct⟩,hrc,hno0⟩:=h
  have hno:S b=none:=hno0 b rfl
  subst hct
  have h1:=r.sc hag
  rw [h1,Nat.mul_one]at hcs hrc
  obtain⟨d,hd1,sI⟩:=aaT h1 hrc (fun x hx=>hx)
  have hdl:d.length=xs.length:=by have:=congrArg List.length sI;simpa using this
  cases hxs:xs with
  |nil=>rw [←hxs];exact none' hxs
  |cons x0 xs0=>
  rw [←hxs]
  have hne:0<d.length:=by rw [hdl,hxs];simp
  haveI:Inhabited (Qb r S xs):=⟨d[0]⟩
  obtain⟨g,cb,rfl,hcal,hsp⟩:=hfv
  let enc:Qb r S xs→Value:=Qb.v
  let cf:Qb r S xs→Qb r S xs→Int:=fun p q=>(cmp (p.x,q.x)).getD 0
  have hcf: ∀p q,cmp (p.x,q.x)=some (cf p q):=fun p q=>by
   have:=hG.tot _ p.m _ q.m
   obtain⟨c,hc⟩:=Option.isSome_iff_exists.1 this
   show _=some ((cmp (p.x,q.x)).getD 0)
   rw [hc];rfl
  have hlt: ∀p q,ltOf cf p q=vh cmp p.x q.x:=fun p q=>by
   unfold ltOf vh;rw [hcf p q]
  have hO:SWO (ltOf cf):=⟨fun x=>by rw [hlt];exact hG.irr _ x.m,fun x y z a b=>by rw [hlt]at*;exact hG.tr _ x.m _ y.m _ z.m a b,fun x y z a b=>by rw [hlt]at*;exact hG.ntr x.m y.m z.m a b⟩
  have hblk:=(wp.1 hb).1
  have hcmp:CmpLays1 P g cb enc cf b 0 d.toArray.size w:=by
   intro m os dk hdk x y
   have hsat:jL (sortWorld enc w b 0 m dk os) S:=hs.same fun k o hk=>by
    have hkb:k≠b:=fun e=>by subst e;rw [hno]at hk;cases hk
    exact qt (hs.lt hk) hkb
   have:=hsp (x.x,y.x) _ (hcf x y) _ S [x.v,y.v] (SH.le_refl _) hsat ⟨⟨_,by unfold Rp.val;rw [hag];rfl,x.h⟩,⟨_,by unfold Rp.val;rw [hag];rfl,y.h⟩,trivial⟩
   refine this.mono fun e w' ⟨v,S'',he,hext,_,hv⟩=>⟨by rw [he,di.1 hv],QQ hext⟩
  have hsz:d.toArray.size=xs.length:=by simpa using hdl
  have hH:Holds enc w b 0 d.toArray:=by
   intro j hj
   have hj' :j<d.length:=by simpa using hj
   have hc:cur[j]? =some (enc d.toArray[j]!):=by
    have:(cur.toList.take xs.length)[j]? =some (enc d.toArray[j]!):=by
     rw [←hd1,C9,getElem!_pos d.toArray j hj]
     simp [hj',enc]
    rw [Ch (by omega)]at this
    simpa using this
   refine⟨by simp [World.cell?,hb,hc],?_⟩
   simp [World.frozen?,hb]
  have hcall:=Any.slices_SortFunc L enc (fun p=>r.one p.h _ (List.mem_singleton_self _)) cf hO g cb b 0 cap d.toArray w (fun args w=>ei hcal args w) hcmp hH hblk (by rw [hsz];have:=hG.len;omega)
  rw [hsz]at hcall
  refine hcall.mono fun e w' ⟨he,d',n,os,⟨hp1,_,hp2⟩,hso,hw⟩=>?_
  have hd's:d'.size=xs.length:=by rw [hp1,hsz]
  have hp3:d'.toList.Perm d:=by
   have e1:d'.extract 0 xs.length=d' :=by rw [←hd's];exact Array.extract_size
   have e2:d.toArray.extract 0 xs.length=d.toArray:=by rw [←hsz];exact Array.extract_size
   rw [e1,e2]at hp2
   simpa using hp2
  have hyd:ys=d'.toList.map Qb.x:=by
   have hp4:(d'.toList.map Qb.x).Perm xs:=by have:=hp3.map Qb.x;rwa [sI]at this
   refine List.Perm.eq_of_pairwise (le:=fun a b=>vh cmp b a=false) ?_ ?_ ?_ (hperm.trans hp4.symm)
   ·intro a c ha hc h5 h6
    exact hG.anti a (hperm.mem_iff.1 ha) c (hp4.mem_iff.1 hc) h6 h5
   ·rw [hys];exact wN hG xs fun y hy=>hy
   ·rw [List.pairwise_iff_getElem]
    intro i j hi hj hij
    have hj' :j<d'.size:=by simpa using hj
    have:=hso i j (lS _) hij (by omega)
    rw [hlt,getElem!_pos d' j hj',getElem!_pos d' i (by omega)]at this
    simpa using this
  subst hw
  refine⟨he,⟨rfl,rfl,rfl,Nat.le_add_right _ _,?_,fun k hk hkb=>qt hk (fun e=>hkb (by rw [e])),SH.le_refl _,fun _ _ _=>rfl⟩,hs.same fun k o hk=>?_,⟨_,⟨_,BF hb,by omega,hmax,?_,rfl⟩,?_,hno0⟩,hlen⟩
  ·unfold sortWorld;rw [size_grow,size_putRow];exact Nat.le_add_right _ _
  ·have hkb:k≠b:=fun e=>by subst e;rw [hno]at hk;cases hk
   exact qt (hs.lt hk) hkb
  ·simp [putCells,h1,hcs]
  ·rw [h1,Nat.mul_one,hlen,←hd's,Aa (by omega),hyd]
   exact HM d'.toList

section
variable{rest:List Oper}
theorem Gb(L:SlLaysF.n6 E.P ρ){f:FuncId}(hf:ρ.f 6=f)(hc:ak E.P f=true) [DecidableEq α](hag:r.agg=false){x y:Operand}{ats:Array TypeId}(hy' :zX cmp xs=some ys)(hx:aJ E.N G x (tV (aT l cap n)))(hn:n=xs.length)(hy:aJ E.N G y (dR E.P (fun p:α×α=>[tD r p.1,tD r p.2]) (tD (rI .i64)) cmp))(hd:Nat.blt d E.N.n=true)(k:ys.length=n→RG E ops Q rest (fE r T l cap ys::O) ((d,DW)::G)):RG E ops Q (⟨some d,.call ⟨.value (.func f),#[x,y],ats⟩,ty,pos,after,none⟩::rest) (fE r T l cap xs::O) G:= .of rfl fun a w S st=>by
 subst hf
 subst hn
 have h1:a.eval x=aT l cap xs.length:=hx S a st.facts
 have hr:(execOp a.eval ⟨some d,.call ⟨.value (.func (ρ.f 6)),#[x,y],ats⟩,ty,pos,after,none⟩).run E.P w= .ok (.enter (ρ.f 6) #[aT l cap xs.length,a.eval y]) w:=by
  have e0:a.eval (.func (ρ.f 6))= .func (.func (ρ.f 6)) #[] #[]:=rfl
  simp [execOp,resolve,e0,h1,Deferred.ofValue,invoke,ei hc]
 refine⟨fun c h=>(by cases h),?_⟩
 rw [hr]
 refine(RL L hag st.sat st.own.1.1 (hy S a st.facts) hy').mono fun e w' ⟨he,hext,hsat,hp,hlen⟩=>⟨_,he,?_⟩
 have hfp: ∀g∈O,∀b,g.fp b→ ¬(l=some b):=fun g hg b hb hl=>st.own.2.1 g hg b hl hb
 refine k hlen _ _ S ⟨st.ext.step hext (fun c hc=>st.own.1.2 c hc),hsat,⟨⟨hp,st.own.1.2⟩,st.own.2.1,st.own.2.2.ext hext hfp⟩,?_⟩;exact(st.facts.mono hext.keep).put hd trivial
theorem pm{m:Nat}(hl:m=n)(s:Nat)(hs:dn G s=some (tV (aT l cap n)))(k:RG E ops Q rest O ((s,tV (aT l cap m))::G)):RG E ops Q rest O G:=by
 subst hl
 exact fun a w S st=>k a w S ⟨st.ext,st.sat,st.own,⟨st.facts.size,st.facts.defers,fun j t h=>by
  unfold dn at h
  by_cases hb:Nat.beq s j=true
  ·rw [hb]at h
   have:=o7 hb
   subst this
   have e:tV (aT l cap m)=t:=by simpa using h
   rw [←e];exact st.facts.at_ s _ hs
  ·rw [Al]at hb
   rw [hb]at h
   exact st.facts.at_ j t h⟩⟩
end

theorem OQ{k:IntKind}{S:SH}: ∀{xs:List Int} {cs:List Value},vf (rI k) S cs xs→cs=xs.map (Value.int k)
 |[],cs,h=>by rw [show cs=[]from h];rfl
 |x::xs,cs,⟨a,b,e,h1,h2⟩=>by
  rw [e,show a=[.int k x]from h1,OQ h2]
  rfl
theorem O9{k:IntKind}{S:SH}: ∀xs:List Int,vf (rI k) S (xs.map (Value.int k)) xs
 |[]=>rfl
 |x::xs=>⟨[.int k x],_,rfl,rfl,O9 xs⟩
theorem Qn{P:Program}(L:Lays.n189 P ρ){xs:List Int}(hlen0:xs.length≤68719476736)(hs:jL w S)(h:(fE (rI .i64) T l cap xs).p w S):
  Calls P (ρ.f 189) #[aT l cap xs.length] w fun e w' =>e= .returned (.tuple #[])∧gn (fun k=>l=some k) w S w' S∧jL w' S∧(fE (rI .i64) T l cap (sortI xs)).p w' S:=by
 cases l with
 |none=>
  have hx:xs=[]:=uD (by obtain⟨_,h4,_⟩:=h;exact h4.1)
  subst hx
  exact(Any.slices_Sort_int_none (P:=P) (ρ:=ρ) L none 0 w).mono fun _ _ ⟨h1,h2⟩=>by subst h2;exact⟨h1,gn.refl _ _ _,hs,by simpa [sortI] using h⟩
 |some b=>
  obtain⟨cells0,⟨cur,hb,hle,hmax,hcs,hct⟩,hrc,hno0⟩:=h
  have hno:S b=none:=hno0 b rfl
  subst hct
  have h1:(rI .i64).sz=1:=rfl
  rw [h1,Nat.mul_one]at hcs hrc
  have hcells:=OQ hrc
  have hH:Holds (Value.int .i64) w b 0 xs.toArray:=by
   intro j hj
   have hj' :j<xs.length:=by simpa using hj
   have hc:cur[j]? =some (Value.int .i64 xs.toArray[j]!):=by
    have:(cur.toList.take xs.length)[j]? =some (Value.int .i64 xs.toArray[j]!):=by
     rw [hcells,C9,getElem!_pos xs.toArray j hj]
     simp [hj']
    rw [Ch (by omega)]at this
    simpa using this
   refine⟨by simp [World.cell?,hb,hc],?_⟩
   simp [World.frozen?,hb]
  have hblk:=(wp.1 hb).1
  have hcall:=calls_of_every_depth fun D=>AnyS.slices_Sort_int_alone (P:=P) (ρ:=ρ) L D b 0 cap xs w hH hblk (by omega)
  refine hcall.mono fun e w' ⟨he,n,os,hw⟩=>?_
  have hlen:=Cn xs
  have hw2:w' =sortWorld (Value.int .i64) w b 0 n (sortI xs).toArray os:=hw
  subst hw2
  refine⟨he,⟨rfl,rfl,rfl,Nat.le_add_right _ _,?_,fun k hk hkb=>qt hk (fun e=>hkb (by rw [e])),SH.le_refl _,fun _ _ _=>rfl⟩,hs.same fun k o hk=>?_,⟨_,⟨_,BF hb,by omega,hmax,?_,rfl⟩,?_,hno0⟩⟩
  ·unfold sortWorld;rw [size_grow,size_putRow];exact Nat.le_add_right _ _
  ·have hkb:k≠b:=fun e=>by subst e;rw [hno]at hk;cases hk
   exact qt (hs.lt hk) hkb
  ·simp [putCells,h1,hcs]
  ·have e1:(sortI xs).length*(rI .i64).sz=(sortI xs).toArray.size:=by rw [h1];simp
   rw [e1,Aa (by simp;omega)]
   exact O9 (sortI xs)
section
variable{rest:List Oper}
theorem TP(L:Lays.n189 E.P ρ){f:FuncId}(hf:ρ.f 189=f)(hc:ak E.P f=true){xs ys:List Int}{x:Operand}{ats:Array TypeId}(hy:EP xs=some ys)(hx:aJ E.N G x (tV (aT l cap n)))(hn:n=xs.length)(hd:Nat.blt d E.N.n=true)(k:ys.length=n→RG E ops Q rest (fE (rI .i64) T l cap ys::O) ((d,DW)::G)):RG E ops Q (⟨some d,.call ⟨.value (.func f),#[x],ats⟩,ty,pos,after,none⟩::rest) (fE (rI .i64) T l cap xs::O) G:= .of rfl fun a w S st=>by
 obtain⟨hl0,rfl⟩:=Kr hy
 subst hf
 subst hn
 have h1:a.eval x=aT l cap xs.length:=hx S a st.facts
 have hr:(execOp a.eval ⟨some d,.call ⟨.value (.func (ρ.f 189)),#[x],ats⟩,ty,pos,after,none⟩).run E.P w= .ok (.enter (ρ.f 189) #[aT l cap xs.length]) w:=by
  have e0:a.eval (.func (ρ.f 189))= .func (.func (ρ.f 189)) #[] #[]:=rfl
  simp [execOp,resolve,e0,h1,Deferred.ofValue,invoke,ei hc]
 refine⟨fun c h=>(by cases h),?_⟩
 rw [hr]
 refine(Qn L hl0 st.sat st.own.1.1).mono fun e w' ⟨he,hext,hsat,hp⟩=>⟨_,he,?_⟩
 have hfp: ∀g∈O,∀b,g.fp b→ ¬(l=some b):=fun g hg b hb hl=>st.own.2.1 g hg b hl hb
 refine k (Cn xs) _ _ S ⟨st.ext.step hext (fun c hc=>st.own.1.2 c hc),hsat,⟨⟨hp,st.own.1.2⟩,st.own.2.1,st.own.2.2.ext hext hfp⟩,?_⟩;exact(st.facts.mono hext.keep).put hd trivial
end
end Go.Proofs.YtfhhakidodmdfaaGreatDoor

