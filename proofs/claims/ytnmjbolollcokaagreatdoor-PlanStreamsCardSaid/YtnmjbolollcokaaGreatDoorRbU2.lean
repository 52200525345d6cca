/- cJ of this claim: U2. -/
import Derived.Test.YtnmjbolollcokaaGreatDoorRbU1
import Derived.Test.YtnmjbolollcokaaGreatDoorRbQ2
set_option linter.all false
namespace Go.Proofs.YtnmjbolollcokaaGreatDoor
open Go

theorem tE(e:bw): ∃b,gM e=some b∧(b=false→e.Nodes.length≤100):=by
 unfold gM
 by_cases h:100<e.Nodes.length
 ·rw [cU (by simp;omega)]
  exact⟨true,rfl,by simp⟩
 ·rw [cM (by simp;omega)]
  have key: ∀ns:List bT,∃b,gj ns=some b:=by
   intro ns
   induction ns with
   |nil=>exact⟨_,rfl⟩
   |cons n ns ih=>
    unfold gj
    split
    ·exact⟨_,rfl⟩
    ·exact ih
  obtain⟨b,hb⟩:=key e.Nodes
  exact⟨b,hb,fun _=>by omega⟩
theorem CB(nx:Option Bool): ∀l:List ko,(∃b,nx=some b)→ ∃b,jN nx l=some b∧(b=false→nx=some false∧ ∀g∈l,g.Arg.Nodes.length≤100)
 |[],⟨b,h⟩=>⟨b,h,fun hb=>⟨by rw [h,hb],fun g hg=>by cases hg⟩⟩
 |g::tl,hn=>by
  unfold jN
  obtain⟨b,h1,h2⟩:=tE g.Arg
  rw [h1,kU]
  cases b with
  |true=>exact⟨true,rfl,by simp⟩
  |false=>
   obtain⟨b',h3,h4⟩:=CB nx tl hn
   exact⟨b',h3,fun hb=>⟨(h4 hb).1,fun x hx=>by
    rcases lM.1 hx with rfl|hx
    ·exact h2 rfl
    ·exact(h4 hb).2 x hx⟩⟩
theorem CC(nx:Option Bool)(e:ai)(hn: ∃b,nx=some b): ∀l:List bw,∃b,jO nx e l=some b∧(b=false→nx=some false∧(∀g∈e.Aggs,g.Arg.Nodes.length≤100)∧ ∀x∈l,x.Nodes.length≤100)
 |[]=>by
  obtain⟨b,h1,h2⟩:=CB nx e.Aggs hn
  exact⟨b,h1,fun hb=>⟨(h2 hb).1,(h2 hb).2,fun x hx=>by cases hx⟩⟩
 |x::tl=>by
  unfold jO
  obtain⟨b,h1,h2⟩:=tE x
  rw [h1,kU]
  cases b with
  |true=>exact⟨true,rfl,by simp⟩
  |false=>
   obtain⟨b',h3,h4⟩:=CC nx e hn tl
   exact⟨b',h3,fun hb=>⟨(h4 hb).1,(h4 hb).2.1,fun y hy=>by
    rcases lM.1 hy with rfl|hy
    ·exact h2 rfl
    ·exact(h4 hb).2.2 y hy⟩⟩
theorem CD: ∀l:List ai,∃b,fv l=some b∧(b=false→ ∀n∈l,FW n)
 |[]=>⟨false,rfl,fun _ n hn=>by cases hn⟩
 |n::tl=>by
  unfold fv
  obtain⟨b0,i1,i2⟩:=CD tl
  by_cases hc:(((((decide ((20:Int)<(n.Kinds.length:Int)))||(decide ((20:Int)<(n.Keys.length:Int))))||(decide ((20:Int)<(n.Order.length:Int))))||(decide ((20:Int)<(n.Items.length:Int))))||(decide ((20:Int)<(n.Aggs.length:Int))))=true
  ·rw [hc]
   exact⟨true,rfl,by simp⟩
  ·rw [rs]at hc
   rw [hc]
   simp only [Bool.or_eq_false_iff,decide_eq_false_iff_not]at hc
   obtain⟨b,h1,h2⟩:=tE n.Cond
   rw [h1]
   cases b with
   |true=>exact⟨true,rfl,by simp⟩
   |false=>
    obtain⟨b',h3,h4⟩:=CC (fv tl) n ⟨b0,i1⟩ n.Items
    refine⟨b',h3,fun hb=>?_⟩
    obtain⟨g1,g2,g3⟩:=h4 hb
    rw [i1]at g1
    have e0:b0=false:=jW g1
    intro m hm
    rcases lM.1 hm with rfl|hm
    ·have:=h2 rfl
     exact⟨by omega,by omega,by omega,by omega,by omega,by omega,fun g hg=>by have:=g2 g hg;omega,fun e he=>by have:=g3 e he;omega⟩
    ·exact i2 e0 m hm
theorem Gs(l:List ai): ∃b,o9 l=some b∧(b=false→l.length≤65∧ ∀n∈l,FW n):=by
 unfold o9
 by_cases h:65<l.length
 ·rw [cU (by simp;omega)]
  exact⟨true,rfl,by simp⟩
 ·rw [cM (by simp;omega)]
  obtain⟨b,h1,h2⟩:=CD l
  exact⟨b,h1,fun hb=>⟨by omega,h2 hb⟩⟩
theorem uo: ∀l:List cA,∃b,gi l=some b∧(b=false→ ∀f∈l,f.Nodes.length≤65)
 |[]=>⟨false,rfl,fun _ n hn=>by cases hn⟩
 |f::tl=>by
  unfold gi
  by_cases hc:(decide ((40:Int)<(f.Cols.length:Int)))=true
  ·rw [hc]
   exact⟨true,rfl,by simp⟩
  ·rw [rs]at hc
   rw [hc]
   obtain⟨b,h1,h2⟩:=Gs f.Nodes
   rw [h1]
   cases b with
   |true=>exact⟨true,rfl,by simp⟩
   |false=>
    obtain⟨b',h3,h4⟩:=uo tl
    exact⟨b',h3,fun hb x hx=>by
     rcases lM.1 hx with rfl|hx
     ·exact(h2 rfl).1
     ·exact h4 hb x hx⟩
def rY(p:bW):Prop:=p.Frags.length≤40∧ ∀f∈p.Frags,f.Nodes.length≤65
theorem An(p:bW): ∃b,kG p=some b∧(b=false→rY p):=by
 unfold kG
 by_cases h:40<p.Frags.length
 ·rw [cU (by simp;omega)]
  exact⟨true,rfl,by simp⟩
 ·rw [cM (by simp;omega)]
  obtain⟨b,h1,h2⟩:=uo p.Frags
  exact⟨b,h1,fun hb=>⟨by omega,h2 hb⟩⟩
theorem yy:qi=some true:=by kernel_rfl
def q5(n:Nat):List Int:=(List.range n).map fun i:Nat=>(i:Int)
def mF(f:cA)(n:Nat):List Int:=if f.At=2 then [0]else(q5 n).map fun i=>i+1
theorem tK(n:Nat):q5 (n+1)=q5 n++[(n:Int)]:=by unfold q5;rw [List.range_succ,xc];rfl
theorem sD(n:Nat):(q5 n).length=n:=by simp [q5]
theorem Fc{n:Nat}{x:Int}:x∈q5 n↔0≤x∧x<(n:Int):=by
 unfold q5
 rw [pK]
 constructor
 ·rintro⟨i,hi,rfl⟩
  rw [xb]at hi
  omega
 ·intro h
  exact⟨x.toNat,xb.2 (by omega),by omega⟩
theorem Cu(n:Nat)(hn:n≤100000): ∀(k j fu:Nat),j+k=n→k<fu→jr (n:Int) fu (q5 j) (j:Int)=some (q5 n)
 |k,j,0,_,h=>by omega
 |0,j,fu+1,hj,_=>by
  unfold jr
  rw [cM (by simp;omega),show j=n by omega]
 |k+1,j,fu+1,hj,hf=>by
  unfold jr
  rw [cU (by simp;omega),FT (by rw [sD];simp;omega),kU,←tK,zN (by omega) (by omega)]
  exact Cu n hn k (j+1) fu (by omega) (by omega)
theorem Gk(n:Nat)(hn:n≤100000):om (n:Int)=some (q5 n):=Cu n hn n 0 ni (by omega) (AF (by omega))
theorem DN(n:Nat):(q5 (n+1)).drop 1=(q5 n).map fun i=>i+1:=by
 induction n with
 |zero=>rfl
 |succ n ih=>
  rw [tK (n+1),EA (by rw [sD];omega),ih,tK n,xc]
  rfl
theorem zX(f:cA){n:Nat}(hn:n≤8):mJ f (n:Int)=some (mF f n):=by
 unfold mJ mF
 by_cases h:f.At=2
 ·rw [cU (by simpa using h),cU h]
 ·rw [cM (by simpa using h),cM h,zN (by omega) (by omega)]
  have e:((n:Int)+1)=((n+1:Nat):Int):=by omega
  rw [e,Gk (n+1) (by omega),kU,Dy (i:=1) (j:=((q5 (n+1)).length:Int)) 1 (q5 (n+1)).length rfl rfl (by rw [sD];omega) (fy _),kU,xd,DN]
def BI(p:bW)(k:Int):Int:=match E0 k p.Frags 0 with|[]=> -1|x::_=>x.1
theorem xw(p:bW)(k:Int):lF p k=some (BI p k):=by
 unfold lF BI
 rw [Ee,kU]
 cases E0 k p.Frags 0 with
 |nil=>rfl
 |cons x tl=>rfl
theorem EZ(p:bW)(k:Int):BI p k= -1∨ ∃(a:Nat) (f:cA),BI p k=(a:Int)∧p.Frags[a]? =some f:=by
 unfold BI
 cases h:E0 k p.Frags 0 with
 |nil=>exact .inl rfl
 |cons x tl=>
  obtain⟨a,f,j,n,g0,g1,g2,g3⟩:=CL (x:=x) (from1:=k) (fs:=p.Frags) (i:=0) (by rw [h];exact lr ..)
  refine .inr ⟨a,f,?_,g0⟩
  show x.1=_
  rw [g2]
  show((0+a:Nat):Int)=_
  rw [pL]
def rj(k:Int)(r:Int)(aa bs:List Int):List (aV×Int):=aa.flatMap fun a=>bs.map fun b=>((⟨k,a,b⟩:aV),r)
def Dv(p:bW)(n k:Nat)(f:cA):List (aV×Int):=if BI p (k:Int)<0 then []else rj (k:Int) (BI p (k:Int)) (mF f n) (mF ((p.Frags[(BI p (k:Int)).toNat]?).getD f) n)
def iX(p:bW)(n:Nat):List cA→Nat→List (aV×Int)
 |[],_=>[]
 |f::tl,k=>Dv p n k f++iX p n tl (k+1)
theorem FU{Sg:Type}(yld:(aV×Int)→Sg→Option (Bool×Sg))(i:Nat)(r:Int)(nx1:Sg→Option Sg)(a:Int): ∀(bs:List Int) (s:Sg),jM yld i r nx1 a bs s=pF yld (bs.map fun b=>((⟨(i:Int),a,b⟩:aV),r)) s nx1
 |[],s=>rfl
 |b::bs,s=>by
  unfold jM
  show _=(yld _ s).bind _
  congr 1
  funext q
  rw [FU yld i r nx1 a bs]
theorem FV{Sg:Type}{p:bW}{n:Nat}(hn:n≤8)(yld:(aV×Int)→Sg→Option (Bool×Sg))(nx:Nat→Sg→Option Sg)(i:Nat){r:Int}{g:cA}(hg:eG p.Frags r=some g): ∀(aa:List Int) (s:Sg),iB p (n:Int) yld nx i r aa s=pF yld (rj (i:Int) r aa (mF g n)) s (nx (i+1))
 |[],s=>rfl
 |a::aa,s=>by
  unfold iB rj
  rw [hg,kU,zX g hn,kU,FU,List.flatMap_cons,nl]
  congr 1
  funext s'
  exact FV hn yld nx i hg aa s'
theorem Cg{Sg:Type}{p:bW}{n:Nat}(hn:n≤8)(yld:(aV×Int)→Sg→Option (Bool×Sg)): ∀(fs:List cA) (i:Nat) (s:Sg),eE p (n:Int) yld fs i s=pF yld (iX p n fs i) s some
 |[],i,s=>rfl
 |f::tl,i,s=>by
  unfold eE iX Dv
  rw [xw,kU]
  by_cases h:BI p (i:Int)<0
  ·rw [cU (by simpa using h),cU h,te]
   exact Cg hn yld tl (i+1) s
  ·rw [cM (by simpa using h),cM h,zX f hn,kU,nl]
   rcases EZ p (i:Int)with h1|⟨a,g,h1,h2⟩
   ·omega
   ·rw [h1,Be,h2,Option.getD_some,FV hn yld _ i (g:=g) (by rw [y4,h2])]
    congr 1
    funext s'
    exact Cg hn yld tl (i+1) s'
theorem JJ(p:bW){n:Nat}(hn:n≤8):su p (n:Int)=some (fun _ yld s=>pF yld (iX p n p.Frags 0) s some):=by
 unfold su
 congr 1
 funext Sg yld s
 exact Cg hn yld p.Frags 0 s
theorem xm(f:cA){n:Nat}(hn:n≤8):(mF f n).length≤8:=by
 unfold mF
 split
 ·simp
 ·simp [sD];omega
theorem xz(k r:Int)(bs:List Int): ∀aa:List Int,(rj k r aa bs).length=aa.length*bs.length
 |[]=>by simp [rj]
 |a::aa=>by
  have:=xz k r bs aa
  unfold rj at this ⊢
  rw [List.flatMap_cons,kW,this,List.length_map,tf,pB]
  omega
theorem zT(p:bW){n:Nat}(hn:n≤8): ∀(fs:List cA) (i:Nat),(iX p n fs i).length≤64*fs.length
 |[],_=>fy _
 |f::tl,i=>by
  unfold iX Dv
  have h1:=zT p hn tl (i+1)
  rw [kW,tf]
  split
  ·simp;omega
  ·rw [xz]
   have h2:=xm f hn
   have h3:=xm ((p.Frags[(BI p (i:Int)).toNat]?).getD f) hn
   have:=Nat.mul_le_mul h2 h3
   omega
theorem vG{holds:aV→Int→Option Bool}{hb:aV×Int→Bool}(hh: ∀x,holds x.1 x.2=some (hb x)): ∀(L:List (aV×Int)) (s:List aV),s.length+L.length≤100000→pF (qy (fun x s=>f9 holds x s)) L s some=some (s++(L.filter hb).map Prod.fst)
 |[],s,_=>by simp [pF]
 |x::L,s,h=>by
  rw [tf]at h
  have e:qy (fun x s=>f9 holds x s) x s=some (true,if hb x=true then s++[x.1]else s):=by
   unfold qy f9
   show Option.map _ ((holds x.1 x.2).bind _)=_
   rw [hh,kU]
   cases hb x with
   |true=>rw [cU rfl,cU rfl,FT (by simp;omega)];rfl
   |false=>rw [cM (by simp),cM (by simp)];rfl
  unfold pF
  rw [e,kU,cM (by simp),List.filter_cons]
  cases hb x with
  |true=>
   show pF (qy (fun x s=>f9 holds x s)) L (s++[x.1]) some=_
   rw [vG hh L _ (by simp;omega)]
   simp
  |false=>
   show pF (qy (fun x s=>f9 holds x s)) L s some=_
   rw [vG hh L s (by omega)]
   simp
theorem yD{p:bW}(hs:rY p){n:Nat}(hn:n≤8){holds:aV→Int→Option Bool}{hb:aV×Int→Bool}(hh: ∀x,holds x.1 x.2=some (hb x)):mq p (n:Int) holds=some (((iX p n p.Frags 0).filter hb).map Prod.fst):=by
 have hl:=zT p hn p.Frags 0
 have h40:=hs.1
 unfold mq
 rw [JJ p hn,kU]
 show(pF (qy (fun x s=>f9 holds x s)) (iX p n p.Frags 0) ([]:List aV) some).bind _=_
 rw [vG hh _ _ (by simp;omega)]
 rfl
end Go.Proofs.YtnmjbolollcokaaGreatDoor

