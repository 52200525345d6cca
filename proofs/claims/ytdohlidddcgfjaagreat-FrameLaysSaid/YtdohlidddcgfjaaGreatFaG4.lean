/- cT of this claim: G4. -/
import Derived.Test.YtdohlidddcgfjaaGreatFaG2
import Derived.Test.YtdohlidddcgfjaaGreatFaQ2
set_option linter.all false
namespace Go.Proofs.YtdohlidddcgfjaaGreat
open Go

theorem GZ{α:Type} [DecidableEq α]{g:List α→Nat→Option Bool}{s2:List α}{P:α→Prop}(h0: ∀i,g [] i=some true)(h1: ∀e tl i,P e→g (e::tl) i=(gj s2 (i:Int)).bind fun e1=>if e=e1 then g tl (i+1)else some false): ∀(l:List α) (i:Nat),(∀e∈l,P e)→i+l.length=s2.length→g l i=some (decide (l=s2.drop i))
 |[],i,_,hl=>by
  rw [h0]
  simp only [ua]at hl
  rw [yU (by omega)]
  simp
 |e::tl,i,hp,hl=>by
  simp only [nT]at hl
  have hi:i<s2.length:=by omega
  rw [h1 e tl i (hp e (nf ..)),dJ,kW hi,bj,xf hi]
  by_cases h:e=s2[i]
  ·rw [bq h,GZ h0 h1 tl (i+1) (fun x hx=>hp x (oO _ hx)) (by omega),←h]
   congr 1
   rw [xJ]
   exact⟨fun hh=>by rw [←hh],fun hh=>(z7 hh).2⟩
  ·rw [aW h,xe (fun hh=>h (z7 hh).1)]
theorem H2{α:Type} [DecidableEq α]{g:List α→Nat→Option Bool}{s1 s2:List α}(h:s1.length=s2.length→g s1 0=some (decide (s1=s2.drop 0))):(if((s1.length:Int) !=(s2.length:Int))then some false else g s1 0)=some (decide (s1=s2)):=by
 by_cases hl:s1.length=s2.length
 ·rw [aW (by simp [hl]),h hl,xd]
 ·rw [bq (by simp;omega),xe (fun hh=>hl (by rw [hh]))]
theorem qJ{α:Type}{p:Prop} [Decidable p](x y:α):(if(!decide p)=true then x else y)=if p then y else x:=by
 by_cases h:p<;>simp [h]
theorem we(a b:List Int):gR a b=some (decide (a=b)):=by
 unfold gR
 refine H2 fun hl=>GZ (P:=fun _=>True) (fun _=>rfl) (fun e tl i _=>?_) a 0 (fun _ _=>trivial) (by simpa using hl)
 conv=>lhs;unfold jj
 congr 1;funext e1
 by_cases h:e=e1<;>simp [h]
theorem GU(a b:List kq):gG a b=some (decide (a=b)):=by
 unfold gG
 refine H2 fun hl=>GZ (P:=fun _=>True) (fun _=>rfl) (fun e tl i _=>?_) a 0 (fun _ _=>trivial) (by simpa using hl)
 conv=>lhs;unfold fU
 congr 1;funext e1
 exact qJ _ _
theorem Ij(a b:List bC):fI a b=some (decide (a=b)):=by
 unfold fI
 refine H2 fun hl=>GZ (P:=fun _=>True) (fun _=>rfl) (fun e tl i _=>?_) a 0 (fun _ _=>trivial) (by simpa using hl)
 conv=>lhs;unfold eX
 congr 1;funext e1
 exact qJ _ _
theorem GT(a b:List aF):d7 a b=some (decide (a=b)):=by
 unfold d7
 refine H2 fun hl=>GZ (P:=fun _=>True) (fun _=>rfl) (fun e tl i _=>?_) a 0 (fun _ _=>trivial) (by simpa using hl)
 conv=>lhs;unfold dE
 congr 1;funext e1
 exact qJ _ _
theorem uG{α:Type} [DecidableEq α]{f:α→α→Option Bool}{e e1:α}{x y:Option Bool}(h:f e e1=some (decide (e=e1))):((f e e1).bind fun r=>if(!r)=true then y else x)=if e=e1 then x else y:=by
 rw [h,bj];exact qJ _ _
theorem ET{f:List aF→List aF→Option Bool}(hf: ∀x y,f x y=some (decide (x=y)))(a b:List (List aF)):cm a b f=some (decide (a=b)):=by
 unfold cm
 refine H2 fun hl=>GZ (P:=fun _=>True) (fun _=>rfl) (fun e tl i _=>?_) a 0 (fun _ _=>trivial) (by simpa using hl)
 conv=>lhs;unfold bW
 congr 1;funext e1
 exact uG (hf e e1)
theorem EU{f:fy→fy→Option Bool}(hf: ∀x y,f x y=some (decide (x=y)))(a b:List fy):dp a b f=some (decide (a=b)):=by
 unfold dp
 refine H2 fun hl=>GZ (P:=fun _=>True) (fun _=>rfl) (fun e tl i _=>?_) a 0 (fun _ _=>trivial) (by simpa using hl)
 conv=>lhs;unfold c0
 congr 1;funext e1
 exact uG (hf e e1)
theorem CM{f:bv→bv→Option Bool}(hf: ∀x y,f x y=some (decide (x=y)))(a b:List bv):cW a b f=some (decide (a=b)):=by
 unfold cW
 refine H2 fun hl=>GZ (P:=fun _=>True) (fun _=>rfl) (fun e tl i _=>?_) a 0 (fun _ _=>trivial) (by simpa using hl)
 conv=>lhs;unfold cO
 congr 1;funext e1
 exact uG (hf e e1)
theorem CK{f:ap→ap→Option Bool}(hf: ∀x y,f x y=some (decide (x=y)))(a b:List ap):cJ a b f=some (decide (a=b)):=by
 unfold cJ
 refine H2 fun hl=>GZ (P:=fun _=>True) (fun _=>rfl) (fun e tl i _=>?_) a 0 (fun _ _=>trivial) (by simpa using hl)
 conv=>lhs;unfold cG
 congr 1;funext e1
 exact uG (hf e e1)
theorem CL{f:ez→ez→Option Bool}(hf: ∀x y,f x y=some (decide (x=y)))(a b:List ez):cV a b f=some (decide (a=b)):=by
 unfold cV
 refine H2 fun hl=>GZ (P:=fun _=>True) (fun _=>rfl) (fun e tl i _=>?_) a 0 (fun _ _=>trivial) (by simpa using hl)
 conv=>lhs;unfold cN
 congr 1;funext e1
 exact uG (hf e e1)
theorem fL{p q:Bool}{x:Option Bool}(h:x=some q):(if p=true then(x.bind fun r=>some r)else some false)=some (p&&q):=by
 subst h
 cases p<;>rfl
theorem vZ(a b:bv):rM a b=some (decide (a=b)):=by
 unfold rM
 rw [Ij,bj]
 cases a;cases b;simp
theorem Ib(a b:fy):oG a b=some (decide (a=b)):=by
 unfold oG
 rw [fL (vZ _ _),bj]
 cases a;cases b;simp [Bool.beq_eq_decide_eq]
theorem F5(a b:ap):nE a b=some (decide (a=b)):=by
 unfold nE
 rw [fL (we _ _),bj,fL (we _ _),bj,fL (GU _ _),bj,fL (vZ _ _),bj,fL (EU Ib _ _),bj,fL (CM vZ _ _),bj]
 cases a;cases b
 congr 1
 rw [pX]
 simp only [gX,ss,rl,ap.mk.injEq]
 grind
theorem Gn(a b:ez):qU nE a b=some (decide (a=b)):=by
 unfold qU
 rw [fL (we _ _),bj,fL (CK F5 _ _),bj]
 cases a;cases b
 congr 1
 rw [pX]
 simp only [gX,ss,rl,ez.mk.injEq]
 grind
theorem FP(a b:dn):wr a b=some (decide (a=b)):=by
 unfold wr
 rw [CL Gn,bj]
 cases a;cases b;simp
theorem Cx(a b:co):oo a b=some (decide (a=b)):=by
 unfold oo
 rw [ET (fun x y=>by unfold o7;rw [GT,bj]),bj]
 obtain⟨k,s,q,l,⟨r,e,c⟩⟩:=a
 obtain⟨k',s',q',l',⟨r',e',c'⟩⟩:=b
 congr 1
 rw [pX]
 simp only [gX,ss,rl,co.mk.injEq,dH.mk.injEq]
 grind
theorem jO(a b:cu):ld a b=some (decide (a=b)):=by
 unfold ld
 rw [fL (Cx _ _),bj,fL (FP _ _),bj]
 cases a;cases b
 congr 1
 rw [pX]
 simp only [gX,ss,rl,cu.mk.injEq,List.cons.injEq]
 grind
theorem uo(a b:bv):qb a b=some (decide (a=b)):=by
 unfold qb
 have:=H2 (s1:=a.Nodes) (s2:=b.Nodes) (g:=oD b) fun hl=>GZ (P:=fun _=>True) (fun _=>rfl) (fun e tl i _=>by
  conv=>lhs;unfold oD
  congr 1;funext e1
  exact qJ _ _) a.Nodes 0 (fun _ _=>trivial) (by simpa using hl)
 rw [this]
 cases a;cases b;simp
theorem Ak(a b:List bv):qB a b=some (decide (a=b)):=by
 unfold qB
 refine H2 fun hl=>GZ (P:=fun _=>True) (fun _=>rfl) (fun e tl i _=>?_) a 0 (fun _ _=>trivial) (by simpa using hl)
 conv=>lhs;unfold n9
 congr 1;funext e1
 exact uG (uo e e1)
theorem xG(a b:List Int):ly a b=some (decide (a=b)):=by
 unfold ly
 refine H2 fun hl=>GZ (P:=fun _=>True) (fun _=>rfl) (fun e tl i _=>?_) a 0 (fun _ _=>trivial) (by simpa using hl)
 conv=>lhs;unfold m5
 congr 1;funext e1
 by_cases h:e=e1<;>simp [h]
theorem se{p q:Bool}{x:Option Bool}(h:x=some q):(if(!p)=true then(x.bind fun r=>some (!r))else some true)=some (p|| !q):=by
 subst h
 cases p<;>rfl
theorem Bs(a b:ap)(ha:a.Order.length≤1000)(hb:a.Order.length=b.Order.length): ∀(tl:List kq) (i f:Nat),a.Order.drop i=tl→tl.length<f→jk a b f (i:Int)=some (decide (tl=b.Order.drop i)&&(decide (a.Cond=b.Cond)&&decide (a.Items=b.Items)))
 |[],i,f+1,hd,_=>by
  have h0:a.Order.length≤i:=ub.1 hd
  unfold jk
  rw [aW (by simp;omega),uo,bj,fL (Ak _ _),bj,yU (by omega)]
  simp
 |e::tl,i,f+1,hd,hf=>by
  obtain⟨h1,h2,h3⟩:=ij hd
  have hi:i<b.Order.length:=by omega
  unfold jk
  rw [bq (by simp;omega),h1,bj,dJ,kW hi,bj,qJ,xf hi]
  by_cases h:e=b.Order[i]
  ·rw [bq h,show IntKind.i64.wrap ((i:Int)+1)=((i+1:Nat):Int) by rw [eC (by omega) (by omega)];omega,Bs a b ha hb tl (i+1) f h3 (by simp at hf;omega),←h]
   simp
  ·rw [aW h,xe (fun hh=>h (z7 hh).1)]
   simp
theorem Bt(a b:ap)(ha:a.Aggs.length≤1000)(ho:a.Order.length≤1000)(hb:a.Aggs.length=b.Aggs.length)(hbo:a.Order.length=b.Order.length): ∀(tl:List fy) (i f:Nat),a.Aggs.drop i=tl→tl.length<f→jl a b f (i:Int)=some (decide (tl=b.Aggs.drop i)&&(decide (a.Order=b.Order)&&(decide (a.Cond=b.Cond)&&decide (a.Items=b.Items))))
 |[],i,f+1,hd,_=>by
  have h0:a.Aggs.length≤i:=ub.1 hd
  unfold jl
  rw [aW (by simp;omega)]
  have:=Bs a b ho hbo a.Order 0 ef rfl (go (by omega))
  rw [xd]at this
  rw [yU (show b.Aggs.length≤i by omega)]
  simpa using this
 |e::tl,i,f+1,hd,hf=>by
  obtain⟨h1,h2,h3⟩:=ij hd
  have hi:i<b.Aggs.length:=by omega
  unfold jl
  rw [bq (by simp;omega),h1,bj,dJ,kW hi,bj,se (uo _ _),bj,xf hi]
  have hx:((e.Tag !=b.Aggs[i].Tag)|| !decide (e.Arg=b.Aggs[i].Arg))= !decide (e=b.Aggs[i]):=by
   generalize b.Aggs[i]=y
   cases e;cases y
   rw [pX];simp
  rw [hx,qJ]
  by_cases h:e=b.Aggs[i]
  ·rw [bq h,show IntKind.i64.wrap ((i:Int)+1)=((i+1:Nat):Int) by rw [eC (by omega) (by omega)];omega,Bt a b ha ho hb hbo tl (i+1) f h3 (by simp at hf;omega),←h]
   simp
  ·rw [aW h,xe (fun hh=>h (z7 hh).1)]
   simp
theorem Ie(a b:ap)(ha:a.Aggs.length≤1000)(ho:a.Order.length≤1000):pA a b=some (decide (a=b)):=by
 unfold pA
 by_cases hc:((((((a.Op !=b.Op)||(a.A !=b.A))||(a.B !=b.B))||(a.Table !=b.Table))||(a.Left !=b.Left))||(a.Limit !=b.Limit))=true
 ·rw [bq hc,xe]
  rintro rfl
  simp at hc
 ·rw [aW hc,se (xG _ _),bj,se (xG _ _),bj]
  by_cases hd:((((a.Aggs.length:Int) !=(b.Aggs.length:Int))||((a.Order.length:Int) !=(b.Order.length:Int))|| !decide (a.Kinds=b.Kinds))|| !decide (a.Keys=b.Keys))=true
  ·rw [bq hd,xe]
   rintro rfl
   simp at hd
  ·rw [aW hd]
   simp at hc hd
   obtain⟨⟨⟨d1,d2⟩,d3⟩,d4⟩:=hd
   have:=Bt a b ha ho (by omega) (by omega) a.Aggs 0 ef rfl (go (by omega))
   rw [xd]at this
   rw [show((0:Int))=((0:Nat):Int)from rfl,this]
   congr 1
   rw [pX]
   simp only [gX,rl]
   cases a;cases b
   simp only [ap.mk.injEq]at*
   grind
theorem yM(a b:dh)(hl:a.Nodes.length≤1000)(hs: ∀n∈a.Nodes,Id n)(hb:a.Nodes.length=b.Nodes.length): ∀(tl:List ap) (i f:Nat),a.Nodes.drop i=tl→tl.length<f→mI a b f (i:Int)=some (decide (tl=b.Nodes.drop i))
 |[],i,f+1,hd,_=>by
  have h0:a.Nodes.length≤i:=ub.1 hd
  unfold mI
  rw [aW (by simp;omega),yU (by omega)]
  simp
 |e::tl,i,f+1,hd,hf=>by
  obtain⟨h1,h2,h3⟩:=ij hd
  have hi:i<b.Nodes.length:=by omega
  have he:=hs e (by rw [dJ]at h1;exact qM h1)
  have:=he.aggs;have:=he.order
  unfold mI
  rw [bq (by simp;omega),h1,bj,dJ,kW hi,bj,Ie e _ (by omega) (by omega),bj,qJ,xf hi]
  by_cases h:e=b.Nodes[i]
  ·rw [bq h,show IntKind.i64.wrap ((i:Int)+1)=((i+1:Nat):Int) by rw [eC (by omega) (by omega)];omega,yM a b hl hs hb tl (i+1) f h3 (by simp at hf;omega),←h]
   simp
  ·rw [aW h,xe (fun hh=>h (z7 hh).1)]
theorem KB(a b:List ap)(hl:a.length≤1000)(hs: ∀n∈a,Id n):um ⟨a⟩ ⟨b⟩=some (decide (a=b)):=by
 unfold um
 by_cases h:a.length=b.length
 ·rw [aW (by simp [h])]
  have:=yM ⟨a⟩ ⟨b⟩ hl hs h a 0 ef rfl (go (by omega))
  rw [xd]at this
  exact this
 ·rw [bq (by simp;omega),xe (fun hh=>h (by rw [hh]))]
theorem Cs(a b:dn)(hs:Kz a):ul a b=some (decide (a=b)):=by
 unfold ul
 have:=H2 (s1:=a.Frags) (s2:=b.Frags) (g:=oC b) fun hl=>GZ (P:=MT) (fun _=>rfl) (fun e tl i he=>by
  conv=>lhs;unfold oC
  congr 1;funext e1
  rw [se (xG _ _),bj,se (KB _ _ (by have:=he.len;omega) he.n),bj]
  have hx:((((e.At !=e1.At)||(e.Way !=e1.Way))|| !decide (e.Cols=e1.Cols))|| !decide (e.Nodes=e1.Nodes))= !decide (e=e1):=by
   cases e;cases e1
   rw [pX];simp;grind
  rw [hx]
  exact qJ _ _) a.Frags 0 hs.f (by simpa using hl)
 rw [this]
 cases a;cases b;simp
theorem EK(a b:List aF):qE a b=some (decide (a=b)):=by
 unfold qE
 refine H2 fun hl=>GZ (P:=fun _=>True) (fun _=>rfl) (fun e tl i _=>?_) a 0 (fun _ _=>trivial) (by simpa using hl)
 conv=>lhs;unfold oa
 congr 1;funext e1
 exact qJ _ _
theorem KC(a b:List (List aF)):ur a b=some (decide (a=b)):=by
 unfold ur
 refine H2 fun hl=>GZ (P:=fun _=>True) (fun _=>rfl) (fun e tl i _=>?_) a 0 (fun _ _=>trivial) (by simpa using hl)
 conv=>lhs;unfold qD
 congr 1;funext e1
 exact uG (EK e e1)
theorem EL(a b:co):n6 a b=some (decide (a=b)):=by
 unfold n6
 rw [fL (KC _ _),bj]
 by_cases hc:((((a.Kind !=b.Kind)||(a.Session !=b.Session))||(a.Seq !=b.Seq))||(a.Limit !=b.Limit))=true
 ·rw [bq hc,xe]
  rintro rfl
  simp at hc
 ·rw [aW hc]
  simp at hc
  obtain⟨k,s,q,l,⟨r,e,c⟩⟩:=a
  obtain⟨k',s',q',l',⟨r',e',c'⟩⟩:=b
  congr 1
  rw [pX]
  simp only [gX,ss,rl,co.mk.injEq,dH.mk.injEq]at*
  grind
theorem kY(a b:cu)(hs:Kz a.Plan):nq a b=some (decide (a=b)):=by
 unfold nq
 rw [EL,bj,fL (Cs _ _ hs),bj]
 by_cases hc:(((((((a.Kind !=b.Kind)||(a.From !=b.From))||(a.To !=b.To))||(a.Epoch !=b.Epoch))||(a.Frag !=b.Frag))||(a.Sites !=b.Sites))||(a.Err !=b.Err))=true
 ·rw [bq hc,xe]
  rintro rfl
  simp at hc
 ·rw [aW hc]
  simp at hc
  cases a;cases b
  congr 1
  rw [pX]
  simp only [gX,rl,cu.mk.injEq]at*
  grind
end Go.Proofs.YtdohlidddcgfjaaGreat

