/- cG of this claim: Y6. -/
import Derived.Test.YtmogpgcfognefaaGreatDoorNaY5
set_option linter.all false
namespace Go.Proofs.YtmogpgcfognefaaGreatDoor
open Go

theorem kw{α:Type}(l:List α)(m:Nat)(M:Int)(hM:M=(m:Int))(hm:m≤1000): ∃y,cz l 0 (min (l.length:Int) M)=some y∧y.length≤m∧nS ([]:List α) y=some y∧ ∀x∈y,x∈l:=by
 subst hM
 refine⟨l.take (min l.length m),?_,by simp;omega,?_,fun x hx=>List.mem_of_mem_take hx⟩
 ·rw [jv 0 (min l.length m) (show(0:Int)=((0:Nat):Int)from rfl) (by omega) (by omega) (by omega),qJ]
 ·rw [gT (by simp;omega),pQ]
theorem J7(l:List bp): ∃y,jq l 5=some y∧y.length≤5:=by
 obtain⟨y,h1,h2,h3,_⟩:=kw l 5 5 rfl (by decide)
 exact⟨y,by unfold jq;rw [h1,cn,h3];rfl,h2⟩
theorem Kc(l:List aV): ∃y,gH l 5=some y∧y.length≤5:=by
 obtain⟨y,h1,h2,h3,_⟩:=kw l 5 5 rfl (by decide)
 exact⟨y,by unfold gH;rw [h1,cn,h3];rfl,h2⟩
theorem wE(l:List Int){m:Nat}(hm:m≤1000): ∃y,eF l (m:Int)=some y∧y.length≤m:=by
 obtain⟨y,h1,h2,h3,_⟩:=kw l m m rfl hm
 exact⟨y,by unfold eF;rw [h1,cn,h3];rfl,h2⟩
theorem J9(l:List aF): ∃y,jr l 61=some y∧y.length≤61:=by
 obtain⟨y,h1,h2,h3,_⟩:=kw l 61 61 rfl (by decide)
 exact⟨y,by unfold jr;rw [h1,cn,h3];rfl,h2⟩
theorem Kd(l:List gc): ∃y,kJ l 14=some y∧y.length≤14:=by
 obtain⟨y,h1,h2,h3,_⟩:=kw l 14 14 rfl (by decide)
 exact⟨y,by unfold kJ;rw [h1,cn,h3];rfl,h2⟩
theorem Kb(l:List bo): ∃y,jZ l 17=some y∧y.length≤17:=by
 obtain⟨y,h1,h2,h3,_⟩:=kw l 17 17 rfl (by decide)
 exact⟨y,by unfold jZ;rw [h1,cn,h3];rfl,h2⟩
theorem J8(l:List iC): ∃y,iW l 5=some y∧y.length≤5:=by
 obtain⟨y,h1,h2,h3,_⟩:=kw l 5 5 rfl (by decide)
 exact⟨y,by unfold iW;rw [h1,cn,h3];rfl,h2⟩
theorem HT(l:List bt): ∃y,js l 60=some y∧y.length≤60:=by
 obtain⟨y,h1,h2,h3,_⟩:=kw l 60 60 rfl (by decide)
 exact⟨y,by unfold js;rw [h1,cn,h3];rfl,h2⟩
theorem Ka(l:List cT): ∃y,jY l 31=some y∧y.length≤31:=by
 obtain⟨y,h1,h2,h3,_⟩:=kw l 31 31 rfl (by decide)
 exact⟨y,by unfold jY;rw [h1,cn,h3];rfl,h2⟩
theorem uM{α:Type}{l:List α}{i j:Nat}{x y:α}(h:(l.set i x)[j]? =some y):(j=i∧y=x)∨(j≠i∧l[j]? =some y):=by
 by_cases hj:j=i
 ·subst hj
  rw [List.getElem?_set_self']at h
  cases hl:l[j]? with
  |none=>rw [hl]at h;cases h
  |some z=>rw [hl]at h;exact .inl ⟨rfl,(lc h).symm⟩
 ·rw [List.getElem?_set_ne (fun e=>hj e.symm)]at h
  exact .inr ⟨hj,h⟩
theorem vm: ∀(tl:List bp) (i:Nat) (out:bA),i+tl.length=out.Tables.length→(∀(j:Nat) (t:bp),j<i→out.Tables[j]? =some t→t.Keys.length≤5∧t.Columns.length≤5)→ ∃c,kW tl i out=some c∧qq c∧ ∀t∈c.Tables,t.Columns.length≤5
 |[],i,out,hl,hk=>by
  have key: ∀t∈out.Tables,t.Keys.length≤5∧t.Columns.length≤5:=fun t ht=>by
   obtain⟨j,hj⟩:=CS ht
   have:=(lJ.1 hj).1
   exact hk j t (by simp at hl;omega) hj
  exact⟨out,rfl,fun t ht=>by have:=(key t ht).1;omega,fun t ht=>(key t ht).2⟩
 |e::tl,i,out,hl,hk=>by
  simp only [mv]at hl
  have hi:i<out.Tables.length:=by omega
  unfold kW
  rw [c8,nT hi,cn,cn]
  obtain⟨r1,a1,a4⟩:=Kc (out.Tables[i]).Columns
  obtain⟨r2,a2,a3⟩:=wE (out.Tables[i]).Keys (m:=5) (by decide)
  have a2' :eF (out.Tables[i]).Keys (5:Int)=some r2:=a2
  rw [a1,cn,a2',cn]
  simp only [cn,vX]
  rw [c8,List.getElem?_set_self hi,cn]
  refine vm tl (i+1) _ (by simp;omega) (fun j t hj ht=>?_)
  rcases uM ht with⟨_,rfl⟩|⟨hne,ht⟩
  ·exact⟨a3,a4⟩
  ·rcases uM ht with⟨h,_⟩|⟨_,ht⟩
   ·exact absurd h hne
   ·exact hk j t (by omega) ht
theorem G8(c:bA): ∃c',oY c=some c' ∧qq c' ∧ ∀t∈c'.Tables,t.Columns.length≤5:=by
 unfold oY
 obtain⟨r,h1,h2⟩:=J7 c.Tables
 rw [h1,cn]
 exact vm r 0 ⟨r⟩ (mu _) (fun j t hj=>by omega)
theorem sd: ∀(tl:List bt) (i:Nat) (out:bo),i+tl.length=out.Nodes.length→ ∃e,kX tl i out=some e∧e.Nodes.length=out.Nodes.length
 |[],i,out,_=>⟨out,rfl,rfl⟩
 |e::tl,i,out,hl=>by
  simp only [mv]at hl
  have hi:i<out.Nodes.length:=by omega
  unfold kX
  rw [c8,nT hi,cn]
  obtain⟨y,a1,_⟩:=kw (out.Nodes[i]).Value.S 41 41 rfl (by decide)
  have a1' :cz (out.Nodes[i]).Value.S 0 (min ((out.Nodes[i]).Value.S.length:Int) (41:Int))=some y:=a1
  rw [a1',cn]
  simp only [cn]
  obtain⟨e',b1,b2⟩:=sd tl (i+1) ({out with Nodes:=out.Nodes.set (i:Int).toNat ({(out.Nodes[i])with Value:=({(out.Nodes[i]).Value with S:=y}:cP)}:bt)}:bo) (by simp;omega)
  exact⟨e',b1,by rw [b2];simp⟩
theorem sK(e:bo): ∃e',mh e=some e' ∧e'.Nodes.length≤60:=by
 unfold mh
 obtain⟨r,h1,h2⟩:=HT e.Nodes
 rw [h1,cn]
 obtain⟨e',b1,b2⟩:=sd r 0 ⟨r⟩ (mu _)
 exact⟨e',b1,by rw [b2];exact h2⟩
structure OY(n:aF):Prop where
 kinds:n.Kinds.length≤17
 keys:n.Keys.length≤6
 aggs:n.Aggs.length≤14
 items:n.Items.length≤17
 order:n.Order.length≤5
def yq(out:List aF)(i:Nat):Prop:= ∀(j:Nat) (n:aF),j<i→out[j]? =some n→yf n
theorem vA(nx:Nat→List aF→Option (List aF))(i:Nat)(out:List aF)(hi:i<out.length)(hg:yq out i)(hnx: ∀out' :List aF,out'.length=out.length→yq out' (i+1)→ ∃r,nx (i+1) out' =some r∧nu r):
  ∀(tl:List bo) (i2:Nat) (n:aF),i2+tl.length=n.Items.length→OY n→(∀a∈n.Aggs,a.Arg.Nodes.length≤60)→(∀(j:Nat) (e:bo),j<i2→n.Items[j]? =some e→e.Nodes.length≤60)→ ∃r,jC nx i out tl i2 n=some r∧nu r
 |[],i2,n,hl,hc,ha,he=>by
  unfold jC
  obtain⟨r6,b1,b2⟩:=sK n.Cond
  rw [b1,cn]
  simp only [cn,vX]
  refine hnx _ (by simp) (fun j m hj hm=>?_)
  rcases uM hm with⟨_,rfl⟩|⟨hne,hm⟩
  ·refine⟨by show r6.Nodes.length≤_;omega,by have:=hc.kinds;show n.Kinds.length≤_;omega,by have:=hc.keys;show n.Keys.length≤_;omega,by have:=hc.aggs;show n.Aggs.length≤_;omega,by have:=hc.items;show n.Items.length≤_;omega,by have:=hc.order;show n.Order.length≤_;omega,fun a hm=>by have:=ha a hm;omega,fun e hm=>?_⟩
   obtain⟨k,hk⟩:=CS hm
   have h1:=(lJ.1 hk).1
   have h1' :k<n.Items.length:=h1
   have:=he k e (by simp at hl;omega) hk
   omega
  ·exact hg j m (by omega) hm
 |e4::tl,i2,n,hl,hc,ha,he=>by
  simp only [mv]at hl
  have h2:i2<n.Items.length:=by omega
  unfold jC
  rw [c8,nT h2,cn,cn]
  obtain⟨r7,b1,b2⟩:=sK (n.Items[i2])
  rw [b1,cn]
  simp only [cn,vX]
  refine vA nx i out hi hg hnx tl (i2+1) _ (by simp;omega) ⟨hc.kinds,hc.keys,hc.aggs,by simpa using hc.items,hc.order⟩ ha (fun j e hj hm=>?_)
  rcases uM hm with⟨_,rfl⟩|⟨hne,hm⟩
  ·exact b2
  ·exact he j e (by omega) hm
theorem vB(nx:Nat→List aF→Option (List aF))(i:Nat)(out:List aF)(hi:i<out.length)(hg:yq out i)(hnx: ∀out' :List aF,out'.length=out.length→yq out' (i+1)→ ∃r,nx (i+1) out' =some r∧nu r):
  ∀(tl:List gc) (i1:Nat) (n:aF),i1+tl.length=n.Aggs.length→OY n→(∀(j:Nat) (a:gc),j<i1→n.Aggs[j]? =some a→a.Arg.Nodes.length≤60)→ ∃r,jD nx i out tl i1 n=some r∧nu r
 |[],i1,n,hl,hc,ha=>by
  unfold jD
  refine vA nx i out hi hg hnx n.Items 0 n (mu _) hc (fun a hm=>?_) (fun j e hj=>by omega)
  obtain⟨k,hk⟩:=CS hm
  have h1:=(lJ.1 hk).1
  exact ha k a (by simp at hl;omega) hk
 |e3::tl,i1,n,hl,hc,ha=>by
  simp only [mv]at hl
  have h2:i1<n.Aggs.length:=by omega
  unfold jD
  rw [c8,nT h2,cn,cn]
  obtain⟨r8,b1,b2⟩:=sK (n.Aggs[i1]).Arg
  rw [b1,cn]
  simp only [cn,vX]
  refine vB nx i out hi hg hnx tl (i1+1) _ (by simp;omega) ⟨hc.kinds,hc.keys,by simpa using hc.aggs,hc.items,hc.order⟩ (fun j a hj hm=>?_)
  rcases uM hm with⟨_,rfl⟩|⟨hne,hm⟩
  ·exact b2
  ·exact ha j a (by omega) hm
theorem vC: ∀(k i:Nat) (out:List aF),i+k=out.length→out.length≤61→yq out i→ ∃r,gG k i out=some r∧nu r
 |0,i,out,hl,h61,hg=>⟨out,rfl,by omega,fun n hm=>by
  obtain⟨j,hj⟩:=CS hm
  have:=(lJ.1 hj).1
  exact hg j n (by omega) hj⟩
 |k+1,i,out,hl,h61,hg=>by
  have hi:i<out.length:=by omega
  unfold gG
  rw [c8,nT hi,cn,cn]
  obtain⟨r1,a1,b1⟩:=wE (out[i]).Kinds (m:=17) (by decide)
  obtain⟨r2,a2,b2⟩:=wE (out[i]).Keys (m:=6) (by decide)
  obtain⟨r3,a3,b3⟩:=Kd (out[i]).Aggs
  obtain⟨r4,a4,b4⟩:=Kb (out[i]).Items
  obtain⟨r5,a5,b5⟩:=J8 (out[i]).Order
  have a1' :eF (out[i]).Kinds (17:Int)=some r1:=a1
  have a2' :eF (out[i]).Keys (6:Int)=some r2:=a2
  rw [a1',cn,a2',cn,a3,cn,a4,cn,a5,cn]
  exact vB (gG k) i out hi hg (fun out' h1 h2=>vC k (i+1) out' (by omega) (by omega) h2) r3 0 _ (mu _) ⟨b1,b2,b3,b4,b5⟩ (fun j a hj=>by omega)
theorem Dn(l:List aF): ∃r,nF l=some r∧nu r:=by
 unfold nF
 obtain⟨r,h1,h2⟩:=J9 l
 rw [h1,cn]
 exact vC r.length 0 r (mu _) h2 (fun j n hj=>by omega)
theorem zG: ∀(tl:List cT) (i:Nat) (out:cZ),i+tl.length=out.Frags.length→out.Frags.length≤31→(∀(j:Nat) (f:cT),j<i→out.Frags[j]? =some f→nu f.Nodes)→ ∃q,mH tl i out=some q∧vc q
 |[],i,out,hl,h31,hk=>⟨out,rfl,by omega,fun f hm=>by
  obtain⟨j,hj⟩:=CS hm
  have:=(lJ.1 hj).1
  exact hk j f (by simp at hl;omega) hj⟩
 |e::tl,i,out,hl,h31,hk=>by
  simp only [mv]at hl
  have hi:i<out.Frags.length:=by omega
  unfold mH
  rw [c8,nT hi,cn,cn]
  obtain⟨r1,a1,b1⟩:=Dn (out.Frags[i]).Nodes
  obtain⟨r2,a2,b2⟩:=wE (out.Frags[i]).Cols (m:=17) (by decide)
  have a2' :eF (out.Frags[i]).Cols (17:Int)=some r2:=a2
  rw [a1,cn,a2',cn]
  simp only [cn,vX]
  refine zG tl (i+1) _ (by simp;omega) (by simpa using h31) (fun j f hj hm=>?_)
  rcases uM hm with⟨_,rfl⟩|⟨hne,hm⟩
  ·exact b1
  ·exact hk j f (by omega) hm
theorem LF(q:cZ): ∃q',rF q=some q' ∧vc q' :=by
 unfold rF
 obtain⟨r,h1,h2⟩:=Ka q.Frags
 rw [h1,cn]
 exact zG r 0 ⟨r⟩ (mu _) h2 (fun j f hj=>by omega)
end Go.Proofs.YtmogpgcfognefaaGreatDoor

