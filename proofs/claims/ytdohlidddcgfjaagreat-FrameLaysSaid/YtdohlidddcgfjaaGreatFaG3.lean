/- cT of this claim: G3. -/
import Derived.Test.YtdohlidddcgfjaaGreatFaG2
import Derived.Test.YtdohlidddcgfjaaGreatFaY15
set_option linter.all false
namespace Go.Proofs.YtdohlidddcgfjaaGreat
open Go

theorem Mb(t:Tr): ∀s,t.wf→ ∀n∈t.flat s,BT n=true:=by
 induction t with
 |lf n=>
  intro s h m hm
  rw [Cj.1 hm,EE];exact h.2.1
 |un n a ih=>
  intro s h m hm
  rcases yS.1 hm with hm|hm
  ·exact ih s h.2 m hm
  ·rw [Cj.1 hm,EE];exact h.1.2.1
 |bi n a b iha ihb=>
  intro s h m hm
  rcases yS.1 hm with hm|hm
  ·rcases yS.1 hm with hm|hm
   ·exact iha s h.2.1 m hm
   ·exact ihb _ h.2.2 m hm
  ·rw [Cj.1 hm,EE];exact h.1.2.1
theorem JU{ns:List bC}(h:np ns=true): ∀n∈ns,BT n=true:=by
 unfold np at h
 obtain⟨t,ht⟩:=Option.isSome_iff_exists.1 h
 obtain⟨h1,h2,_⟩:=nl ht
 rw [h2]
 exact Mb t 0 h1
theorem Ls{e:bv}(h:np e.Nodes=true):VE e:=fun n hn h1=>by
 have:=JU h n hn
 unfold BT jK at this
 rw [bq (by simp [h1]),pD]at this
 simp [vF]at this
 grind
theorem Gb{e:bv}{ks:List Int}(h:(fO e ks).2=0):np e.Nodes=true:=by
 unfold fO at h
 split at h
 ·assumption
 ·cases h
theorem vS{e:bv}{ks:List Int}(h:(fO e ks).2=0):VE e:=Ls (Gb h)
theorem GA{e:bv}(h:e.Nodes.length=0):VE e:=fun n hn=>by
 rw [tv h]at hn;cases hn
theorem Fk{e:bv}{ks:List Int}(hl:e.Nodes.length≤5000){b:Bool}(h:jy e ks=some b)(hb:b=true):VE e:=by
 rw [AW e ks hl]at h
 cases h
 unfold Hg at hb
 simp only [gX,ss]at hb
 exact vS hb.1
theorem IJ: ∀(items:List bv) (ob:al) {r:Bool×al},(∀e∈items,e.Nodes.length≤5000)→ev items ob=some r→r.1=true→ ∀e∈items,VE e
 |[],_,_,_,_,_=>fun e he=>by cases he
 |e::tl,ob,r,hl,h,hr=>by
  unfold ev at h
  rw [mf e _ (by have:=hl e (nf ..);omega),bj]at h
  by_cases hk:(fO e ob.a_).2=0
  ·rw [aW (by simp [hk])]at h
   obtain⟨l4,_,h⟩:=bs h
   intro x hx
   rcases jW.1 hx with rfl|hx
   ·exact vS hk
   ·exact IJ tl _ (fun y hy=>hl y (oO _ hy)) h hr x hx
  ·rw [bq (by simpa using hk)]at h
   cases h
   cases hr
theorem RV{g:fy}{a:List Int}(h:(zu g a).2=true):VE g.Arg:=by
 unfold zu at h
 split at h
 ·exact GA (by simpa using h)
 ·split at h
  ·simp only [gX,ss]at h;exact vS h.1.1.1
  ·split at h
   ·simp only [gX,ss]at h;exact vS h.1.1
   ·simp only [gX,ss]at h;exact vS h.1.1
theorem BB{l:al}(hg: ∀g∈l.n.Aggs,g.Arg.Nodes.length≤5000)(hgl:l.n.Aggs.length≤5000): ∀(ks R:List Int) {r:Bool×al},R.length+ks.length≤5000→dy l ks {l with result:=R}=some r→r.1=true→ ∀g∈l.n.Aggs,VE g.Arg
 |[],R,r,hR,h,hr=>by
  unfold dy at h
  rw [HO l.n.Aggs _ R hg (by simp at hR;omega)]at h
  cases h
  simp only [gX]at hr
  exact fun g hg' =>RV (pq.1 hr.2 g hg')
 |k::tl,R,r,hR,h,hr=>by
  simp only [nT]at hR
  unfold dy at h
  split at h
  ·cases h;cases hr
  ·obtain⟨e2,_,h⟩:=bs h
   obtain⟨l9,h9,h⟩:=bs h
   have h9' :gn R [e2]=some l9:=h9
   rw [bH (by simp;omega)]at h9'
   cases h9'
   exact BB hg hgl tl (R++[e2]) (by simp;omega) h hr
theorem yA{nx:Nat→Bool→al→Option (Bool×al)}{i:Nat}{e:fy}{ok:Bool}{ob:al}{e3:Int}{x:Bool}{r:Bool×al}(h:gK nx i e ok ob e3 x=some r): ∃ok' ob',nx (i+1) ok' ob' =some r∧(ok' =true→ok=true∧e.Arg.Nodes.length=0):=by
 unfold gK at h
 split at h
 ·exact⟨_,_,h,fun h=>by simp at h;exact⟨h.1.1,by rw [h.1.2];rfl⟩⟩
 ·exact⟨_,_,h,fun h=>by cases h⟩
theorem yB{l:al}{nx:Nat→Bool→al→Option (Bool×al)}{i:Nat}{e:fy}{ok:Bool}{ob:al}{e3:Int}{x:Bool}{r:Bool×al}(h:fj l nx i e ok ob e3 x=some r): ∃ok' ob',nx (i+1) ok' ob' =some r∧(ok' =true→ok=true∧e.Arg.Nodes.length=0):=by
 unfold fj at h
 split at h
 ·exact⟨_,_,h,fun h=>by simp at h;exact⟨h.1.1,by rw [h.1.2];rfl⟩⟩
 ·split at h
  ·obtain⟨e4,_,h⟩:=bs h
   obtain⟨st,_,h⟩:=bs h
   exact⟨_,_,h,fun h=>by simp at h;exact⟨h.1.1,by rw [h.1.2];rfl⟩⟩
  ·split at h
   ·exact yA h
   ·exact yA h
theorem yy{l:al}: ∀(gs:List fy) (i:Nat) (ok:Bool) (ob:al) {r:Bool×al},bY l gs i ok ob=some r→r.1=true→ok=true∧ ∀g∈gs,g.Arg.Nodes.length=0
 |[],i,ok,ob,r,h,hr=>by
  unfold bY at h
  cases h
  exact⟨hr,fun g hg=>by cases hg⟩
 |g::gs,i,ok,ob,r,h,hr=>by
  unfold bY at h
  obtain⟨e3,_,h⟩:=bs h
  have: ∃ok' ob',bY l gs (i+1) ok' ob' =some r∧(ok' =true→ok=true∧g.Arg.Nodes.length=0):=by
   split at h
   ·exact yB h
   ·exact yB h
  obtain⟨ok',ob',h1,h2⟩:=this
  obtain⟨h3,h4⟩:=yy gs _ _ _ h1 hr
  obtain⟨h5,h6⟩:=h2 h3
  refine⟨h5,fun x hx=>?_⟩
  rcases jW.1 hx with rfl|hx
  ·exact h6
  ·exact h4 x hx
theorem yz{l:al}{R:List Int}: ∀(ks:List Int) (i:Nat) (ok:Bool) {r:Bool×al},ec l R ks i ok=some r→r.1=true→ ∀g∈l.n.Aggs,g.Arg.Nodes.length=0
 |[],i,ok,r,h,hr=>by
  unfold ec at h
  exact(yy _ _ _ _ h hr).2
 |k::ks,i,ok,r,h,hr=>by
  unfold ec at h
  obtain⟨t,_,h⟩:=bs h
  exact yz ks _ _ h hr
theorem RU{n:ap}(hn:jg n){l:al}(hl:l.n=n){r:Bool×al}(h:oN n.Op l ()=some r)(hr:r.1=true):VN n:=by
 subst hl
 refine⟨fun ho=>?_,fun ho=>?_,fun ho=>?_⟩
 ·rcases ho with ho|ho
  ·rw [ho]at h
   have h:gC l=some r:=h
   unfold gC at h
   obtain⟨c,_,h⟩:=bs h
   obtain⟨b,h1,h⟩:=bs h
   cases h
   exact Fk hn.cond h1 hr
  ·rw [ho]at h
   have h:fC l=some r:=h
   unfold fC at h
   obtain⟨b,h1,h⟩:=bs h
   cases h
   exact Fk hn.cond h1 hr
 ·rcases ho with ho|ho|ho
  ·rw [ho]at h
   have h:ep l=some r:=h
   exact BB hn.args hn.aggs l.n.Keys [] (by have:=hn.keys;simpa using this) h hr
  ·rw [ho]at h
   have h:fb l=some r:=h
   unfold fb at h
   obtain⟨q,h1,h⟩:=bs h
   by_cases hq:q.1=true
   ·exact BB hn.args hn.aggs l.n.Keys [] (by have:=hn.keys;simpa using this) h1 hq
   ·rw [bq (by simpa using hq)]at h
    cases h;cases hr
  ·rw [ho]at h
   have h:eu l=some r:=h
   unfold eu at h
   obtain⟨e,_,h⟩:=bs h
   split at h
   ·cases h;cases hr
   ·obtain⟨c,_,h⟩:=bs h
    exact fun g hg=>GA (yz _ _ _ h hr g hg)
 ·rw [ho]at h
  have h:hU l=some r:=h
  exact IJ l.n.Items _ hn.exprs h hr
theorem ud{l:al}{i:Int}{ask:al→Unit→Option (Bool×al)}{e:ap}{r:Int}: ∀(tl:List Int) (i5:Nat) (a b:List Int) {q:Bool×al},bh l i ask e r tl i5 a b=some q→q.1=true→ ∃l0 r2,l0.n=e∧ask l0 ()=some r2∧r2.1=true
 |[],i5,a,b,q,h,hq=>by
  unfold bh at h
  split at h
  ·cases h;cases hq
  ·obtain⟨r2,h2,h⟩:=bs h
   by_cases hr:r2.1=true
   ·exact⟨_,r2,rfl,h2,hr⟩
   ·rw [bq (by simp [hr])]at h
    cases h;cases hq
 |p::tl,i5,a,b,q,h,hq=>by
  unfold bh at h
  obtain⟨e2,_,h⟩:=bs h
  obtain⟨t1,_,h⟩:=bs h
  split at h
  ·cases h;cases hq
  ·split at h
   ·exact ud tl _ _ _ h hq
   ·exact ud tl _ _ _ h hq
theorem JE{l:al}{i:Int}{ask:al→Unit→Option (Bool×al)}{q:Bool×al}(h:dO l i ask=some q)(hq:q.1=true){e:ap}(he:gj l.nodes i=some e): ∃l0 r2,l0.n=e∧ask l0 ()=some r2∧r2.1=true:=by
 unfold dO at h
 rw [he,bj]at h
 obtain⟨r,_,h⟩:=bs h
 obtain⟨t,_,h⟩:=bs h
 split at h
 ·cases h;cases hq
 ·obtain⟨y,_,h⟩:=bs h
  split at h
  ·cases h;cases hq
  ·obtain⟨y1,_,h⟩:=bs h
   exact ud _ _ _ _ h hq
theorem IP{ns:List ap}(hs:rE ns): ∀(tl:List ap) (i:Nat) (l:al),ns.drop i=tl→Pj ns l i→ ∀{out:List (List Int)} {w:Int},gh ns ((mN).getD []) tl i (-1) l=some (out,w,0)→ ∀n∈tl,VN n
 |[],_,_,_,_,_,_,_=>fun n hn=>by cases hn
 |e::tl,i,l,hd,hS,out,w,h=>by
  obtain⟨hidx,hi,hd'⟩:=ij hd
  have hidx' :=hidx
  rw [dJ]at hidx
  obtain⟨ok,l',g1,g2,g3⟩:=C0 hS hs hidx tl
  unfold gh at h
  have g1' :dO l (i:Int) ((tg ((mN).getD []) e.Op).getD (fun _ _=>none))=some (ok,l'):=g1
  rw [g1',bj]at h
  cases ok with
  |false=>
   rw [bq (by rfl)]at h
   unfold jN at h
   rw [aW (by simp;omega),pQ l' (by omega)]at h
   cases h
  |true=>
   rw [aW (by simp)]at h
   have hse:=hs.n e (qM hidx)
   obtain⟨l0,r2,k1,k2,k3⟩:=JE g1 rfl (by rw [hS.k.nodes];exact hidx')
   intro n hn
   rcases jW.1 hn with rfl|hn
   ·exact RU hse k1 k2 k3
   ·exact IP hs tl (i+1) l' hd' (g2 rfl).1 h n hn
theorem MP{ns:List ap}(hs:rE ns){out:List (List Int)}{w:Int}(h:lc ns=some (out,w,0)): ∀n∈ns,VN n:=by
 unfold lc at h
 split at h
 ·cases h
 ·exact IP hs ns 0 ⟨ns,[],[],⟨0,0,0,0,[],false,⟨[]⟩,[],[],[],[],0⟩,[],[],[]⟩ rfl ⟨⟨rfl,rfl,fun p hp=>(by cases hp),eE _,fun k hk=>(by cases hk),fun j hj=>by omega⟩,.nil,fun k hk=>by cases hk⟩ h
end Go.Proofs.YtdohlidddcgfjaaGreat

