/- cF of this claim: Y6. -/
import Derived.Test.YtmogpgcfognefaaGreatDoorNbY5
set_option linter.all false
namespace Go.Proofs.YtmogpgcfognefaaGreatDoor
open Go

theorem li{α:Type}(l:List α)(m:Nat)(M:Int)(hM:M=(m:Int))(hm:m≤1000): ∃y,cy l 0 (min (l.length:Int) M)=some y∧y.length≤m∧nK ([]:List α) y=some y∧ ∀x∈y,x∈l:=by
 subst hM
 refine⟨l.take (min l.length m),?_,by simp;omega,?_,fun x hx=>List.mem_of_mem_take hx⟩
 ·rw [jw 0 (min l.length m) (show(0:Int)=((0:Nat):Int)from rfl) (by omega) (by omega) (by omega),qJ]
 ·rw [gF (by simp;omega),pM]
theorem JQ(l:List bo): ∃y,jp l 5=some y∧y.length≤5:=by
 obtain⟨y,h1,h2,h3,_⟩:=li l 5 5 rfl (by decide)
 exact⟨y,by unfold jp;rw [h1,ce,h3];rfl,h2⟩
theorem JU(l:List aU): ∃y,gC l 5=some y∧y.length≤5:=by
 obtain⟨y,h1,h2,h3,_⟩:=li l 5 5 rfl (by decide)
 exact⟨y,by unfold gC;rw [h1,ce,h3];rfl,h2⟩
theorem AH(l:List Int){m:Nat}(hm:m≤1000): ∃y,fA l (m:Int)=some y∧y.length≤m:=by
 obtain⟨y,h1,h2,h3,_⟩:=li l m m rfl hm
 exact⟨y,by unfold fA;rw [h1,ce,h3];rfl,h2⟩
theorem JS(l:List aB): ∃y,jq l 61=some y∧y.length≤61:=by
 obtain⟨y,h1,h2,h3,_⟩:=li l 61 61 rfl (by decide)
 exact⟨y,by unfold jq;rw [h1,ce,h3];rfl,h2⟩
theorem JV(l:List fU): ∃y,kF l 14=some y∧y.length≤14:=by
 obtain⟨y,h1,h2,h3,_⟩:=li l 14 14 rfl (by decide)
 exact⟨y,by unfold kF;rw [h1,ce,h3];rfl,h2⟩
theorem JT(l:List bk): ∃y,jW l 17=some y∧y.length≤17:=by
 obtain⟨y,h1,h2,h3,_⟩:=li l 17 17 rfl (by decide)
 exact⟨y,by unfold jW;rw [h1,ce,h3];rfl,h2⟩
theorem JR(l:List iA): ∃y,iW l 5=some y∧y.length≤5:=by
 obtain⟨y,h1,h2,h3,_⟩:=li l 5 5 rfl (by decide)
 exact⟨y,by unfold iW;rw [h1,ce,h3];rfl,h2⟩
theorem Hw(l:List bq): ∃y,jr l 60=some y∧y.length≤60:=by
 obtain⟨y,h1,h2,h3,_⟩:=li l 60 60 rfl (by decide)
 exact⟨y,by unfold jr;rw [h1,ce,h3];rfl,h2⟩
theorem wO{α:Type}{l:List α}{i j:Nat}{x y:α}(h:(l.set i x)[j]? =some y):(j=i∧y=x)∨(j≠i∧l[j]? =some y):=by
 by_cases hj:j=i
 ·subst hj
  rw [List.getElem?_set_self']at h
  cases hl:l[j]? with
  |none=>rw [hl]at h;cases h
  |some z=>rw [hl]at h;exact .inl ⟨rfl,(k5 h).symm⟩
 ·rw [List.getElem?_set_ne (fun e=>hj e.symm)]at h
  exact .inr ⟨hj,h⟩
theorem vd: ∀(tl:List bo) (i:Nat) (out:bz),i+tl.length=out.Tables.length→(∀(j:Nat) (t:bo),j<i→out.Tables[j]? =some t→t.Keys.length≤5∧t.Columns.length≤5)→ ∃c,kU tl i out=some c∧qt c∧ ∀t∈c.Tables,t.Columns.length≤5
 |[],i,out,hl,hk=>by
  have key: ∀t∈out.Tables,t.Keys.length≤5∧t.Columns.length≤5:=fun t ht=>by
   obtain⟨j,hj⟩:=EZ ht
   have:=(lJ.1 hj).1
   exact hk j t (by simp at hl;omega) hj
  exact⟨out,rfl,fun t ht=>by have:=(key t ht).1;omega,fun t ht=>(key t ht).2⟩
 |e::tl,i,out,hl,hk=>by
  simp only [mN]at hl
  have hi:i<out.Tables.length:=by omega
  unfold kU
  rw [de,mM hi,ce,ce]
  obtain⟨r1,a1,a4⟩:=JU (out.Tables[i]).Columns
  obtain⟨r2,a2,a3⟩:=AH (out.Tables[i]).Keys (m:=5) (by decide)
  have a2' :fA (out.Tables[i]).Keys (5:Int)=some r2:=a2
  rw [a1,ce,a2',ce]
  simp only [ce,wu]
  rw [de,List.getElem?_set_self hi,ce]
  refine vd tl (i+1) _ (by simp;omega) (fun j t hj ht=>?_)
  rcases wO ht with⟨_,rfl⟩|⟨hne,ht⟩
  ·exact⟨a3,a4⟩
  ·rcases wO ht with⟨h,_⟩|⟨_,ht⟩
   ·exact absurd h hne
   ·exact hk j t (by omega) ht
theorem GO(c:bz): ∃c',oT c=some c' ∧qt c' ∧ ∀t∈c'.Tables,t.Columns.length≤5:=by
 unfold oT
 obtain⟨r,h1,h2⟩:=JQ c.Tables
 rw [h1,ce]
 exact vd r 0 ⟨r⟩ (nm _) (fun j t hj=>by omega)
theorem sh: ∀(tl:List bq) (i:Nat) (out:bk),i+tl.length=out.Nodes.length→ ∃e,kV tl i out=some e∧e.Nodes.length=out.Nodes.length
 |[],i,out,_=>⟨out,rfl,rfl⟩
 |e::tl,i,out,hl=>by
  simp only [mN]at hl
  have hi:i<out.Nodes.length:=by omega
  unfold kV
  rw [de,mM hi,ce]
  obtain⟨y,a1,_⟩:=li (out.Nodes[i]).Value.S 41 41 rfl (by decide)
  have a1' :cy (out.Nodes[i]).Value.S 0 (min ((out.Nodes[i]).Value.S.length:Int) (41:Int))=some y:=a1
  rw [a1',ce]
  simp only [ce]
  obtain⟨e',b1,b2⟩:=sh tl (i+1) ({out with Nodes:=out.Nodes.set (i:Int).toNat ({(out.Nodes[i])with Value:=({(out.Nodes[i]).Value with S:=y}:cO)}:bq)}:bk) (by simp;omega)
  exact⟨e',b1,by rw [b2];simp⟩
theorem sM(e:bk): ∃e',me e=some e' ∧e'.Nodes.length≤60:=by
 unfold me
 obtain⟨r,h1,h2⟩:=Hw e.Nodes
 rw [h1,ce]
 obtain⟨e',b1,b2⟩:=sh r 0 ⟨r⟩ (nm _)
 exact⟨e',b1,by rw [b2];exact h2⟩
structure OB(n:aB):Prop where
 kinds:n.Kinds.length≤17
 keys:n.Keys.length≤6
 aggs:n.Aggs.length≤14
 items:n.Items.length≤17
 order:n.Order.length≤5
def xY(out:List aB)(i:Nat):Prop:= ∀(j:Nat) (n:aB),j<i→out[j]? =some n→xN n
theorem vm(nx:Nat→List aB→Option (List aB))(i:Nat)(out:List aB)(hi:i<out.length)(hg:xY out i)(hnx: ∀out' :List aB,out'.length=out.length→xY out' (i+1)→ ∃r,nx (i+1) out' =some r∧nj r):
  ∀(tl:List bk) (i2:Nat) (n:aB),i2+tl.length=n.Items.length→OB n→(∀a∈n.Aggs,a.Arg.Nodes.length≤60)→(∀(j:Nat) (e:bk),j<i2→n.Items[j]? =some e→e.Nodes.length≤60)→ ∃r,jC nx i out tl i2 n=some r∧nj r
 |[],i2,n,hl,hc,ha,he=>by
  unfold jC
  obtain⟨r6,b1,b2⟩:=sM n.Cond
  rw [b1,ce]
  simp only [ce,wu]
  refine hnx _ (by simp) (fun j m hj hm=>?_)
  rcases wO hm with⟨_,rfl⟩|⟨hne,hm⟩
  ·refine⟨by show r6.Nodes.length≤_;omega,by have:=hc.kinds;show n.Kinds.length≤_;omega,by have:=hc.keys;show n.Keys.length≤_;omega,by have:=hc.aggs;show n.Aggs.length≤_;omega,by have:=hc.items;show n.Items.length≤_;omega,by have:=hc.order;show n.Order.length≤_;omega,fun a hm=>by have:=ha a hm;omega,fun e hm=>?_⟩
   obtain⟨k,hk⟩:=EZ hm
   have h1:=(lJ.1 hk).1
   have h1' :k<n.Items.length:=h1
   have:=he k e (by simp at hl;omega) hk
   omega
  ·exact hg j m (by omega) hm
 |e4::tl,i2,n,hl,hc,ha,he=>by
  simp only [mN]at hl
  have h2:i2<n.Items.length:=by omega
  unfold jC
  rw [de,mM h2,ce,ce]
  obtain⟨r7,b1,b2⟩:=sM (n.Items[i2])
  rw [b1,ce]
  simp only [ce,wu]
  refine vm nx i out hi hg hnx tl (i2+1) _ (by simp;omega) ⟨hc.kinds,hc.keys,hc.aggs,by simpa using hc.items,hc.order⟩ ha (fun j e hj hm=>?_)
  rcases wO hm with⟨_,rfl⟩|⟨hne,hm⟩
  ·exact b2
  ·exact he j e (by omega) hm
theorem vn(nx:Nat→List aB→Option (List aB))(i:Nat)(out:List aB)(hi:i<out.length)(hg:xY out i)(hnx: ∀out' :List aB,out'.length=out.length→xY out' (i+1)→ ∃r,nx (i+1) out' =some r∧nj r):
  ∀(tl:List fU) (i1:Nat) (n:aB),i1+tl.length=n.Aggs.length→OB n→(∀(j:Nat) (a:fU),j<i1→n.Aggs[j]? =some a→a.Arg.Nodes.length≤60)→ ∃r,jD nx i out tl i1 n=some r∧nj r
 |[],i1,n,hl,hc,ha=>by
  unfold jD
  refine vm nx i out hi hg hnx n.Items 0 n (nm _) hc (fun a hm=>?_) (fun j e hj=>by omega)
  obtain⟨k,hk⟩:=EZ hm
  have h1:=(lJ.1 hk).1
  exact ha k a (by simp at hl;omega) hk
 |e3::tl,i1,n,hl,hc,ha=>by
  simp only [mN]at hl
  have h2:i1<n.Aggs.length:=by omega
  unfold jD
  rw [de,mM h2,ce,ce]
  obtain⟨r8,b1,b2⟩:=sM (n.Aggs[i1]).Arg
  rw [b1,ce]
  simp only [ce,wu]
  refine vn nx i out hi hg hnx tl (i1+1) _ (by simp;omega) ⟨hc.kinds,hc.keys,by simpa using hc.aggs,hc.items,hc.order⟩ (fun j a hj hm=>?_)
  rcases wO hm with⟨_,rfl⟩|⟨hne,hm⟩
  ·exact b2
  ·exact ha j a (by omega) hm
theorem vo: ∀(k i:Nat) (out:List aB),i+k=out.length→out.length≤61→xY out i→ ∃r,gB k i out=some r∧nj r
 |0,i,out,hl,h61,hg=>⟨out,rfl,by omega,fun n hm=>by
  obtain⟨j,hj⟩:=EZ hm
  have:=(lJ.1 hj).1
  exact hg j n (by omega) hj⟩
 |k+1,i,out,hl,h61,hg=>by
  have hi:i<out.length:=by omega
  unfold gB
  rw [de,mM hi,ce,ce]
  obtain⟨r1,a1,b1⟩:=AH (out[i]).Kinds (m:=17) (by decide)
  obtain⟨r2,a2,b2⟩:=AH (out[i]).Keys (m:=6) (by decide)
  obtain⟨r3,a3,b3⟩:=JV (out[i]).Aggs
  obtain⟨r4,a4,b4⟩:=JT (out[i]).Items
  obtain⟨r5,a5,b5⟩:=JR (out[i]).Order
  have a1' :fA (out[i]).Kinds (17:Int)=some r1:=a1
  have a2' :fA (out[i]).Keys (6:Int)=some r2:=a2
  rw [a1',ce,a2',ce,a3,ce,a4,ce,a5,ce]
  exact vn (gB k) i out hi hg (fun out' h1 h2=>vo k (i+1) out' (by omega) (by omega) h2) r3 0 _ (nm _) ⟨b1,b2,b3,b4,b5⟩ (fun j a hj=>by omega)
theorem C8(l:List aB): ∃r,oU l=some r∧nj r:=by
 unfold oU
 obtain⟨r,h1,h2⟩:=JS l
 rw [h1,ce]
 exact vo r.length 0 r (nm _) h2 (fun j n hj=>by omega)
end Go.Proofs.YtmogpgcfognefaaGreatDoor

