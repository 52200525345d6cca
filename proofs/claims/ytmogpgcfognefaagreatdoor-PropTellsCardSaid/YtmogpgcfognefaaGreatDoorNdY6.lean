/- di of this claim: Y6. -/
import Derived.Test.YtmogpgcfognefaaGreatDoorNdY5
set_option linter.all false
namespace Go.Proofs.YtmogpgcfognefaaGreatDoor
open Go

theorem nM{α:Type}(l:List α)(m:Nat)(M:Int)(hM:M=(m:Int))(hm:m≤1000): ∃y,dw l 0 (min (l.length:Int) M)=some y∧y.length≤m∧ko ([]:List α) y=some y∧ ∀x∈y,x∈l:=by
 subst hM
 refine⟨l.take (min l.length m),?_,by simp;omega,?_,fun x hx=>List.mem_of_mem_take hx⟩
 ·rw [j3 0 (min l.length m) (show(0:Int)=((0:Nat):Int)from rfl) (by omega) (by omega) (by omega),sa]
 ·rw [du (by simp;omega),nv]
theorem Sc(l:List bU): ∃y,my l 5=some y∧y.length≤5:=by
 obtain⟨y,h1,h2,h3,_⟩:=nM l 5 5 rfl (by decide)
 exact⟨y,by unfold my;rw [h1,bA,h3];rfl,h2⟩
theorem Sj(l:List bL): ∃y,jU l 5=some y∧y.length≤5:=by
 obtain⟨y,h1,h2,h3,_⟩:=nM l 5 5 rfl (by decide)
 exact⟨y,by unfold jU;rw [h1,bA,h3];rfl,h2⟩
theorem Cb(l:List Int){m:Nat}(hm:m≤1000): ∃y,gC l (m:Int)=some y∧y.length≤m:=by
 obtain⟨y,h1,h2,h3,_⟩:=nM l m m rfl hm
 exact⟨y,by unfold gC;rw [h1,bA,h3];rfl,h2⟩
theorem Sf(l:List aw): ∃y,mz l 61=some y∧y.length≤61:=by
 obtain⟨y,h1,h2,h3,_⟩:=nM l 61 61 rfl (by decide)
 exact⟨y,by unfold mz;rw [h1,bA,h3];rfl,h2⟩
theorem Sk(l:List gm): ∃y,nY l 14=some y∧y.length≤14:=by
 obtain⟨y,h1,h2,h3,_⟩:=nM l 14 14 rfl (by decide)
 exact⟨y,by unfold nY;rw [h1,bA,h3];rfl,h2⟩
theorem Si(l:List bp): ∃y,nf l 17=some y∧y.length≤17:=by
 obtain⟨y,h1,h2,h3,_⟩:=nM l 17 17 rfl (by decide)
 exact⟨y,by unfold nf;rw [h1,bA,h3];rfl,h2⟩
theorem Sd(l:List kW): ∃y,l0 l 5=some y∧y.length≤5:=by
 obtain⟨y,h1,h2,h3,_⟩:=nM l 5 5 rfl (by decide)
 exact⟨y,by unfold l0;rw [h1,bA,h3];rfl,h2⟩
theorem Pg(l:List bD): ∃y,mA l 60=some y∧y.length≤60:=by
 obtain⟨y,h1,h2,h3,_⟩:=nM l 60 60 rfl (by decide)
 exact⟨y,by unfold mA;rw [h1,bA,h3];rfl,h2⟩
theorem Sh(l:List cL): ∃y,ne l 31=some y∧y.length≤31:=by
 obtain⟨y,h1,h2,h3,_⟩:=nM l 31 31 rfl (by decide)
 exact⟨y,by unfold ne;rw [h1,bA,h3];rfl,h2⟩
theorem Ai{α:Type}{l:List α}{i j:Nat}{x y:α}(h:(l.set i x)[j]? =some y):(j=i∧y=x)∨(j≠i∧l[j]? =some y):=by
 by_cases hj:j=i
 ·subst hj
  rw [List.getElem?_set_self']at h
  cases hl:l[j]? with
  |none=>rw [hl]at h;cases h
  |some z=>rw [hl]at h;exact .inl ⟨rfl,(od h).symm⟩
 ·rw [List.getElem?_set_ne (fun e=>hj e.symm)]at h
  exact .inr ⟨hj,h⟩
theorem A2: ∀(tl:List bU) (i:Nat) (out:bG),i+tl.length=out.Tables.length→(∀(j:Nat) (t:bU),j<i→out.Tables[j]? =some t→t.Keys.length≤5∧t.Columns.length≤5)→ ∃c,oJ tl i out=some c∧qM c∧ ∀t∈c.Tables,t.Columns.length≤5
 |[],i,out,hl,hk=>by
  have key: ∀t∈out.Tables,t.Keys.length≤5∧t.Columns.length≤5:=fun t ht=>by
   obtain⟨j,hj⟩:=AX ht
   have:=(pc.1 hj).1
   exact hk j t (by simp at hl;omega) hj
  exact⟨out,rfl,fun t ht=>by have:=(key t ht).1;omega,fun t ht=>(key t ht).2⟩
 |e::tl,i,out,hl,hk=>by
  simp only [kb]at hl
  have hi:i<out.Tables.length:=by omega
  unfold oJ
  rw [cK,nP hi,bA,bA]
  obtain⟨r1,a1,a4⟩:=Sj (out.Tables[i]).Columns
  obtain⟨r2,a2,a3⟩:=Cb (out.Tables[i]).Keys (m:=5) (by decide)
  have a2' :gC (out.Tables[i]).Keys (5:Int)=some r2:=a2
  rw [a1,bA,a2',bA]
  simp only [bA,Ab]
  rw [cK,List.getElem?_set_self hi,bA]
  refine A2 tl (i+1) _ (by simp;omega) (fun j t hj ht=>?_)
  rcases Ai ht with⟨_,rfl⟩|⟨hne,ht⟩
  ·exact⟨a3,a4⟩
  ·rcases Ai ht with⟨h,_⟩|⟨_,ht⟩
   ·exact absurd h hne
   ·exact hk j t (by omega) ht
theorem N5(c:bG): ∃c',ub c=some c' ∧qM c' ∧ ∀t∈c'.Tables,t.Columns.length≤5:=by
 unfold ub
 obtain⟨r,h1,h2⟩:=Sc c.Tables
 rw [h1,bA]
 exact A2 r 0 ⟨r⟩ (pj _) (fun j t hj=>by omega)
theorem xG: ∀(tl:List bD) (i:Nat) (out:bp),i+tl.length=out.Nodes.length→ ∃e,oK tl i out=some e∧e.Nodes.length=out.Nodes.length
 |[],i,out,_=>⟨out,rfl,rfl⟩
 |e::tl,i,out,hl=>by
  simp only [kb]at hl
  have hi:i<out.Nodes.length:=by omega
  unfold oK
  rw [cK,nP hi,bA]
  obtain⟨y,a1,_⟩:=nM (out.Nodes[i]).Value.S 41 41 rfl (by decide)
  have a1' :dw (out.Nodes[i]).Value.S 0 (min ((out.Nodes[i]).Value.S.length:Int) (41:Int))=some y:=a1
  rw [a1',bA]
  simp only [bA]
  obtain⟨e',b1,b2⟩:=xG tl (i+1) ({out with Nodes:=out.Nodes.set (i:Int).toNat ({(out.Nodes[i])with Value:=({(out.Nodes[i]).Value with S:=y}:dQ)}:bD)}:bp) (by simp;omega)
  exact⟨e',b1,by rw [b2];simp⟩
theorem yh(e:bp): ∃e',p6 e=some e' ∧e'.Nodes.length≤60:=by
 unfold p6
 obtain⟨r,h1,h2⟩:=Pg e.Nodes
 rw [h1,bA]
 obtain⟨e',b1,b2⟩:=xG r 0 ⟨r⟩ (pj _)
 exact⟨e',b1,by rw [b2];exact h2⟩
structure XF(n:aw):Prop where
 kinds:n.Kinds.length≤17
 keys:n.Keys.length≤6
 aggs:n.Aggs.length≤14
 items:n.Items.length≤17
 order:n.Order.length≤5
def DP(out:List aw)(i:Nat):Prop:= ∀(j:Nat) (n:aw),j<i→out[j]? =some n→jX n
theorem Bb(nx:Nat→List aw→Option (List aw))(i:Nat)(out:List aw)(hi:i<out.length)(hg:DP out i)(hnx: ∀out' :List aw,out'.length=out.length→DP out' (i+1)→ ∃r,nx (i+1) out' =some r∧pb r):
  ∀(tl:List bp) (i2:Nat) (n:aw),i2+tl.length=n.Items.length→XF n→(∀a∈n.Aggs,a.Arg.Nodes.length≤60)→(∀(j:Nat) (e:bp),j<i2→n.Items[j]? =some e→e.Nodes.length≤60)→ ∃r,mK nx i out tl i2 n=some r∧pb r
 |[],i2,n,hl,hc,ha,he=>by
  unfold mK
  obtain⟨r6,b1,b2⟩:=yh n.Cond
  rw [b1,bA]
  simp only [bA,Ab]
  refine hnx _ (by simp) (fun j m hj hm=>?_)
  rcases Ai hm with⟨_,rfl⟩|⟨hne,hm⟩
  ·refine⟨by show r6.Nodes.length≤_;omega,by have:=hc.kinds;show n.Kinds.length≤_;omega,by have:=hc.keys;show n.Keys.length≤_;omega,by have:=hc.aggs;show n.Aggs.length≤_;omega,by have:=hc.items;show n.Items.length≤_;omega,by have:=hc.order;show n.Order.length≤_;omega,fun a hm=>by have:=ha a hm;omega,fun e hm=>?_⟩
   obtain⟨k,hk⟩:=AX hm
   have h1:=(pc.1 hk).1
   have h1' :k<n.Items.length:=h1
   have:=he k e (by simp at hl;omega) hk
   omega
  ·exact hg j m (by omega) hm
 |e4::tl,i2,n,hl,hc,ha,he=>by
  simp only [kb]at hl
  have h2:i2<n.Items.length:=by omega
  unfold mK
  rw [cK,nP h2,bA,bA]
  obtain⟨r7,b1,b2⟩:=yh (n.Items[i2])
  rw [b1,bA]
  simp only [bA,Ab]
  refine Bb nx i out hi hg hnx tl (i2+1) _ (by simp;omega) ⟨hc.kinds,hc.keys,hc.aggs,by simpa using hc.items,hc.order⟩ ha (fun j e hj hm=>?_)
  rcases Ai hm with⟨_,rfl⟩|⟨hne,hm⟩
  ·exact b2
  ·exact he j e (by omega) hm
theorem Bc(nx:Nat→List aw→Option (List aw))(i:Nat)(out:List aw)(hi:i<out.length)(hg:DP out i)(hnx: ∀out' :List aw,out'.length=out.length→DP out' (i+1)→ ∃r,nx (i+1) out' =some r∧pb r):
  ∀(tl:List gm) (i1:Nat) (n:aw),i1+tl.length=n.Aggs.length→XF n→(∀(j:Nat) (a:gm),j<i1→n.Aggs[j]? =some a→a.Arg.Nodes.length≤60)→ ∃r,mL nx i out tl i1 n=some r∧pb r
 |[],i1,n,hl,hc,ha=>by
  unfold mL
  refine Bb nx i out hi hg hnx n.Items 0 n (pj _) hc (fun a hm=>?_) (fun j e hj=>by omega)
  obtain⟨k,hk⟩:=AX hm
  have h1:=(pc.1 hk).1
  exact ha k a (by simp at hl;omega) hk
 |e3::tl,i1,n,hl,hc,ha=>by
  simp only [kb]at hl
  have h2:i1<n.Aggs.length:=by omega
  unfold mL
  rw [cK,nP h2,bA,bA]
  obtain⟨r8,b1,b2⟩:=yh (n.Aggs[i1]).Arg
  rw [b1,bA]
  simp only [bA,Ab]
  refine Bc nx i out hi hg hnx tl (i1+1) _ (by simp;omega) ⟨hc.kinds,hc.keys,by simpa using hc.aggs,hc.items,hc.order⟩ (fun j a hj hm=>?_)
  rcases Ai hm with⟨_,rfl⟩|⟨hne,hm⟩
  ·exact b2
  ·exact ha j a (by omega) hm
theorem Bd: ∀(k i:Nat) (out:List aw),i+k=out.length→out.length≤61→DP out i→ ∃r,jT k i out=some r∧pb r
 |0,i,out,hl,h61,hg=>⟨out,rfl,by omega,fun n hm=>by
  obtain⟨j,hj⟩:=AX hm
  have:=(pc.1 hj).1
  exact hg j n (by omega) hj⟩
 |k+1,i,out,hl,h61,hg=>by
  have hi:i<out.length:=by omega
  unfold jT
  rw [cK,nP hi,bA,bA]
  obtain⟨r1,a1,b1⟩:=Cb (out[i]).Kinds (m:=17) (by decide)
  obtain⟨r2,a2,b2⟩:=Cb (out[i]).Keys (m:=6) (by decide)
  obtain⟨r3,a3,b3⟩:=Sk (out[i]).Aggs
  obtain⟨r4,a4,b4⟩:=Si (out[i]).Items
  obtain⟨r5,a5,b5⟩:=Sd (out[i]).Order
  have a1' :gC (out[i]).Kinds (17:Int)=some r1:=a1
  have a2' :gC (out[i]).Keys (6:Int)=some r2:=a2
  rw [a1',bA,a2',bA,a3,bA,a4,bA,a5,bA]
  exact Bc (jT k) i out hi hg (fun out' h1 h2=>Bd k (i+1) out' (by omega) (by omega) h2) r3 0 _ (pj _) ⟨b1,b2,b3,b4,b5⟩ (fun j a hj=>by omega)
theorem JB(l:List aw): ∃r,rX l=some r∧pb r:=by
 unfold rX
 obtain⟨r,h1,h2⟩:=Sf l
 rw [h1,bA]
 exact Bd r.length 0 r (pj _) h2 (fun j n hj=>by omega)
theorem Fc: ∀(tl:List cL) (i:Nat) (out:da),i+tl.length=out.Frags.length→out.Frags.length≤31→(∀(j:Nat) (f:cL),j<i→out.Frags[j]? =some f→pb f.Nodes)→ ∃q,qF tl i out=some q∧vP q
 |[],i,out,hl,h31,hk=>⟨out,rfl,by omega,fun f hm=>by
  obtain⟨j,hj⟩:=AX hm
  have:=(pc.1 hj).1
  exact hk j f (by simp at hl;omega) hj⟩
 |e::tl,i,out,hl,h31,hk=>by
  simp only [kb]at hl
  have hi:i<out.Frags.length:=by omega
  unfold qF
  rw [cK,nP hi,bA,bA]
  obtain⟨r1,a1,b1⟩:=JB (out.Frags[i]).Nodes
  obtain⟨r2,a2,b2⟩:=Cb (out.Frags[i]).Cols (m:=17) (by decide)
  have a2' :gC (out.Frags[i]).Cols (17:Int)=some r2:=a2
  rw [a1,bA,a2',bA]
  simp only [bA,Ab]
  refine Fc tl (i+1) _ (by simp;omega) (by simpa using h31) (fun j f hj hm=>?_)
  rcases Ai hm with⟨_,rfl⟩|⟨hne,hm⟩
  ·exact b1
  ·exact hk j f (by omega) hm
theorem TY(q:da): ∃q',xk q=some q' ∧vP q' :=by
 unfold xk
 obtain⟨r,h1,h2⟩:=Sh q.Frags
 rw [h1,bA]
 exact Fc r 0 ⟨r⟩ (pj _) h2 (fun j f hj=>by omega)
end Go.Proofs.YtmogpgcfognefaaGreatDoor

