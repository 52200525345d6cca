/- cR of this claim: U9. -/
import Derived.Test.YtnmjbolollcokaaGreatDoorRcU8
set_option linter.all false
namespace Go.Proofs.YtnmjbolollcokaaGreatDoor
open Go

theorem Bd(c:bG): ∃o,mJ c=some o∧(o=false→c.Tables.length≤10∧ ∀t∈c.Tables,t.Keys.length≤10∧t.Columns.length≤10):=by
 have hl2: ∀(nx:Option Bool) (l:List bn),gH nx l=some true∨gH nx l=nx:=by
  intro nx l
  induction l with
  |nil=>exact .inr rfl
  |cons x l ih=>
   unfold gH
   split
   ·exact .inl rfl
   ·exact ih
 have hl1: ∀l:List br,∃o,fU l=some o∧(o=false→ ∀t∈l,t.Keys.length≤10∧t.Columns.length≤10):=by
  intro l
  induction l with
  |nil=>exact⟨false,rfl,fun _ t ht=>by cases ht⟩
  |cons x l ih=>
   obtain⟨o,h1,h2⟩:=ih
   unfold fU
   split
   ·exact⟨true,rfl,fun h=>by cases h⟩
   ·rename_i hc
    rcases hl2 (fU l) x.Columns with h|h
    ·exact⟨true,h,fun h=>by cases h⟩
    ·refine⟨o,by rw [h,h1],fun ho t ht=>?_⟩
     rcases gz.1 ht with rfl|ht
     ·simp at hc;omega
     ·exact h2 ho t ht
 unfold mJ
 split
 ·exact⟨true,rfl,fun h=>by cases h⟩
 ·rename_i hc
  obtain⟨o,h1,h2⟩:=hl1 c.Tables
  exact⟨o,h1,fun ho=>⟨by simp at hc;omega,h2 ho⟩⟩
def p8(c:bG)(n:M):Bool:=if n.Op=1 then(match cK c.Tables n.Table with|some t=>decide (t.Columns.map bn.Kind=n.Kinds)|none=>false)else true
theorem GH(nx:Option Bool)(e:M): ∀(cols:List bn) (ks:List Int),ks.length+cols.length≤1000→lM nx e cols ks=if ks++cols.map bn.Kind=e.Kinds then nx else some false
 |[],ks,_=>by
  unfold lM pP
  rw [wk,be,yg,yb]
  by_cases h:ks=e.Kinds
  ·rw [bm h,nU h,bg (by simp)]
  ·rw [bg h,my h,bm (by simp)]
 |x::tl,ks,h=>by
  simp only [gJ]at h
  unfold lM
  rw [ca (by simp;omega),be,GH nx e tl _ (by simp;omega),wL,n6]
  rfl
theorem Hs{α:Type}{xs:List α}{i:Int}(h:(xs.length:Int)≤i):cK xs i=none:=by
 obtain⟨k,rfl⟩:=Int.eq_ofNat_of_zero_le (show 0≤i by omega)
 rw [cg]
 exact F6 (by omega)
theorem Eg{α:Type}{xs:List α}{i:Int}(h0:0≤i)(h:i<(xs.length:Int)): ∃x,cK xs i=some x∧x∈xs:=by
 obtain⟨k,rfl⟩:=Int.eq_ofNat_of_zero_le h0
 refine⟨xs[k]'(by omega),?_,List.getElem_mem _⟩
 rw [cg]
 exact pE _
section
variable{c:bG}
theorem GI(hc: ∀t∈c.Tables,t.Keys.length≤10∧t.Columns.length≤10): ∀ns:List M,(∀n∈ns,n.Op=1→0≤n.Table)→i7 c ns=some (ns.all (p8 c))
 |[],_=>rfl
 |n::tl,h=>by
  have ih:=GI hc tl fun m hm=>h m (nE _ hm)
  have hn:=h n (nm ..)
  unfold i7
  rw [vc]
  by_cases h1:n.Op=1
  ·rw [bg (by simp [h1])]
   by_cases h2:(c.Tables.length:Int)≤n.Table
   ·rw [bm (by simpa using h2)]
    have:p8 c n=false:=by unfold p8;rw [bm h1,Hs h2]
    rw [this];rfl
   ·obtain⟨t,ht,htm⟩:=Eg (xs:=c.Tables) (hn h1) (by omega)
    have:=(hc t htm).2
    rw [bg (by simpa using h2),ht,be,GH _ _ _ _ (by simp;omega),iv,ih]
    have:p8 c n=decide (t.Columns.map bn.Kind=n.Kinds):=by unfold p8;rw [bm h1,ht]
    rw [this]
    by_cases h3:t.Columns.map bn.Kind=n.Kinds
    ·rw [bm h3,nU h3];rfl
    ·rw [bg h3,my h3];rfl
  ·rw [bm (by simpa using h1)]
   have:p8 c n=true:=by unfold p8;rw [bg h1]
   rw [this,vb]
   exact ih
theorem GR(nx:Int→Option Bool)(i:Nat)(hi:i≤1000){e:M}{t:br}(ht:cK c.Tables e.Table=some t)(hl:t.Columns.length=e.Kinds.length)(hk:e.Kinds.length≤1000): ∀(tl:List Int) (k fu:Nat),e.Kinds.drop k=tl→tl.length<fu→mg c nx (i:Int) e fu (k:Int)=if(t.Columns.drop k).map bn.Kind=tl then nx ((i+1:Nat):Int)else some false:=by
 intro tl
 induction tl with
 |nil=>
  intro k fu hd hf
  obtain⟨fu,rfl⟩: ∃m,fu=m+1:=⟨fu-1,by omega⟩
  have h0:e.Kinds.length≤k:=ye.1 hd
  unfold mg oq
  rw [bg (by simp;omega),bP (by omega) (by omega),zD (by omega:t.Columns.length≤k),bm (by rfl)]
  rfl
 |cons x tl ih=>
  intro k fu hd hf
  simp only [gJ]at hf
  obtain⟨fu,rfl⟩: ∃m,fu=m+1:=⟨fu-1,by omega⟩
  obtain⟨h1,h2,h3⟩:=im hd
  have hkt:k<t.Columns.length:=by omega
  have hg:cK t.Columns (k:Int)=some t.Columns[k]:=by rw [cg];exact pE hkt
  unfold mg
  rw [bm (by simp;omega),ht,be,hg,be,h1,be,pW hkt,wL]
  by_cases h:t.Columns[k].Kind=x
  ·rw [bg (by simp [h]),bP (by omega) (by omega),show(k:Int)+1=((k+1:Nat):Int)from by omega,ih (k+1) fu h3 (by omega)]
   by_cases h' :(t.Columns.drop (k+1)).map bn.Kind=tl
   ·rw [bm h',bm (by rw [h,h'])]
   ·rw [bg h',bg (fun hh=>h' (List.cons.inj hh).2)]
  ·rw [bm (by simpa using h),bg (fun hh=>h (List.cons.inj hh).1)]
theorem GT{l:bK}(hl:l.Nodes.length≤100)(hS:nD l)(hn: ∀n∈l.Nodes,n.Op=1→0≤n.Table)(hc: ∀t∈c.Tables,t.Keys.length≤10∧t.Columns.length≤10): ∀(tl:List M) (i fu:Nat),l.Nodes.drop i=tl→tl.length<fu→jp l c fu (i:Int)=some (tl.all (p8 c)):=by
 intro tl
 induction tl with
 |nil=>
  intro i fu hd hf
  obtain⟨fu,rfl⟩: ∃m,fu=m+1:=⟨fu-1,by omega⟩
  have h0:l.Nodes.length≤i:=ye.1 hd
  unfold jp
  rw [bg (by simp;omega)]
  rfl
 |cons n tl ih=>
  intro i fu hd hf
  simp only [gJ]at hf
  obtain⟨fu,rfl⟩: ∃m,fu=m+1:=⟨fu-1,by omega⟩
  obtain⟨h1,h2,h3⟩:=im hd
  have hnm:n∈l.Nodes:=by rw [cg]at h1;exact qE h1
  have ih' :=ih (i+1) fu h3 (by omega)
  unfold jp
  rw [bm (by simp;omega),h1,be,vc]
  by_cases ho:n.Op=1
  ·rw [bg (by simp [ho])]
   by_cases h4:(c.Tables.length:Int)≤n.Table
   ·rw [bg (by simpa using h4),be,bm rfl]
    have:p8 c n=false:=by unfold p8;rw [bm ho,Hs h4]
    rw [this];rfl
   ·obtain⟨t,ht,htm⟩:=Eg (xs:=c.Tables) (hn n hnm ho) (by omega)
    have hcl:=(hc t htm).2
    rw [bm (by simpa using h4),ht,be,be]
    have hs:p8 c n=decide (t.Columns.map bn.Kind=n.Kinds):=by unfold p8;rw [bm ho,ht]
    rw [hs]
    by_cases hk:t.Columns.length=n.Kinds.length
    ·rw [bg (by simp [hk]),show((0:Int))=((0:Nat):Int)from rfl,GR _ i (by omega) ht hk (by omega) n.Kinds 0 dj rfl (iK (by omega)),qr,ih']
     by_cases h5:t.Columns.map bn.Kind=n.Kinds
     ·rw [bm h5,nU h5];rfl
     ·rw [bg h5,my h5];rfl
    ·rw [bm (by simp;omega)]
     have: ¬t.Columns.map bn.Kind=n.Kinds:=fun h=>hk (by rw [←h,List.length_map])
     rw [my this];rfl
  ·rw [bm (by simpa using ho)]
   have:p8 c n=true:=by unfold p8;rw [bg ho]
   rw [this,vb]
   unfold oq
   rw [bP (by omega) (by omega)]
   exact ih'
end
theorem Lm{l:bK}(hS:nD l){ob:aq}{j:Int}(sC:lg l=some (ob,j,true))(hL:CR l ob){p:Nat}(hp:p<l.Nodes.length):uA l (p:Int)=some (vJ l (p+1-u6 ob.first p) p,0):=by
 have hle:=hL.le
 obtain⟨N0,hf⟩:=hL.inv.at hp
 have h1:=N0.pos
 have h2:=N0.le
 have hfi:cK ob.first (p:Int)=some ((p+1-u6 ob.first p:Nat):Int):=by rw [cg,hf];congr 1;omega
 unfold uA
 rw [sC]
 simp only [be,nT,mz,iM]
 rw [bg (by simp;omega),hfi]
 simp only [be]
 rw [JF hS hle hp (by omega) ((l.Nodes.take (p+1)).drop (p+1-u6 ob.first p)) (p+1-u6 ob.first p) dj _ rfl (by simp;omega) (iK (by simp;omega)) (by simp)]
 rfl
theorem Cl{l:bK}(c:bG)(hS:nD l){ob:aq}{j:Int}(sC:lg l=some (ob,j,true))(hL:CR l ob): ∀(tl:List M) (i:Nat) (pk:List (List Int)),l.Nodes.drop i=tl→i+tl.length=l.Nodes.length→pk=(List.range i).map (CZ ob.kinds)→
  jT l tl i (⟨⟨[]⟩,l,c,pk⟩:ay)=jT l [] l.Nodes.length (⟨⟨[]⟩,l,c,(List.range l.Nodes.length).map (CZ ob.kinds)⟩:ay)
 |[],i,pk,_,hi,hp=>by
  simp only [q7,zx]at hi
  rw [hp,hi]
 |n::tl,i,pk,hd,hi,hp=>by
  obtain⟨h1,h2,h3⟩:=im hd
  simp only [gJ]at hi
  have hle:=hL.le
  have H:Bo l (u6 ob.first) (CZ ob.kinds):=fun j hj=>y8 hL.inv hle hj
  obtain⟨m,F⟩:=H i h2
  have hz:=F.le
  have hz1:=F.pos
  have hpe:=Lm hS sC hL h2
  have hPF:=Cn H hle h2 hz
  obtain⟨sz',ks',K⟩:=Ns (yI hS (i+1-u6 ob.first i) i) (IS H hle h2 hz hz1)
  have hk:=(Hh (yI hS (i+1-u6 ob.first i) i) K hPF).1
  have hkk:=K.kinds
  rw [←hk,ux h2,show i+1-u6 ob.first i+(i+1-(i+1-u6 ob.first i)-1)=i from by omega]at hkk
  conv=>lhs;unfold jT
  rw [hpe,be]
  show((qk (vJ l (i+1-u6 ob.first i) i)).bind _)=_
  rw [hkk,be]
  show((iC pk [CZ ob.kinds i]).bind _)=_
  rw [ca (by rw [hp];simp;omega),be]
  exact Cl c hS sC hL tl (i+1) _ h3 (by omega) (by rw [hp,List.range_succ,An];rfl)
def AF(L:List bk):cC×Int:=if(decide (30<L.length)||L.any fun f=>decide (60<f.Nodes.length))=true then(⟨[]⟩,3)else(⟨L⟩,0)
theorem Hw: ∀(L:List bk) (i:Nat),∃r,cT nO L i=some r∧decide (0≤r)=L.any fun f=>decide (60<f.Nodes.length)
 |[],i=>⟨-1,rfl,rfl⟩
 |f::tl,i=>by
  unfold cT nO
  rw [be,vf]
  by_cases h:60<f.Nodes.length
  ·rw [bm (by simp;omega),nU h]
   exact⟨_,rfl,by simp⟩
  ·rw [bg (by simp;omega),my h]
   exact Hw tl (i+1)
theorem NK(L:List bk):dG L nO=some (L.any fun f=>decide (60<f.Nodes.length)):=by
 obtain⟨r,h1,h2⟩:=Hw L 0
 unfold dG gi
 rw [h1,be,h2]
theorem IK(L:List bk)(hL:L.length≤30)(x:cC): ∀(tl:List bk) (i fu:Nat),L.drop i=tl→tl.length<fu→lL L fu (i:Int) x=some (if(tl.any fun f=>decide (60<f.Nodes.length))=true then(⟨[]⟩,3)else(⟨L⟩,0)):=by
 intro tl
 induction tl with
 |nil=>
  intro i fu hd hf
  obtain⟨fu,rfl⟩: ∃m,fu=m+1:=⟨fu-1,by omega⟩
  have h0:L.length≤i:=ye.1 hd
  unfold lL
  rw [bg (by simp;omega)]
  rfl
 |cons f tl ih=>
  intro i fu hd hf
  simp only [gJ]at hf
  obtain⟨fu,rfl⟩: ∃m,fu=m+1:=⟨fu-1,by omega⟩
  obtain⟨h1,h2,h3⟩:=im hd
  unfold lL
  rw [bm (by simp;omega)]
  show((cK L (i:Int)).bind _)=_
  rw [h1,be,vf]
  by_cases h:60<f.Nodes.length
  ·rw [bm (by simp;omega),nU h];rfl
  ·rw [bg (by simp;omega),my h,u0,bP (by omega) (by omega)]
   exact ih (i+1) fu h3 (by omega)
theorem Lk{l:bK}{c:bG}(hl:l.Nodes.length≤65)(hS:nD l)(ht:c.Tables.length≤10)(hc: ∀t∈c.Tables,t.Keys.length≤10∧t.Columns.length≤10):
  (∃e,e≠0∧qX l c=some (⟨[]⟩,e)∧xB l c=some (⟨[]⟩,e))∨
  ∃s fs,rP s∧iX [] fs (ev s.nodes)∧fs.length≤29∧(∀f∈fs++[(⟨s.nodes,2,4,[]⟩:bk)],f.Nodes.length≤60)∧qX l c=some (⟨fs++[⟨s.nodes,2,4,[]⟩]⟩,0)∧xB l c=some (⟨fs++[⟨s.nodes,2,4,[]⟩]⟩,0):=by
 have hsc:FW c:=fun t htm=>by have:=(hc t htm).1;omega
 obtain⟨r1,⟨jj,r2⟩,ob,j,r3,r4⟩:=GO hS
 unfold qX xB
 rw [r1,r2,be,be]
 cases hr:qu l with
 |false=>exact .inl ⟨230,by decide,by rw [bm (by rfl)];rfl,by rw [bm (by decide)]⟩
 |true=>
  obtain⟨hL,hj⟩:=r4 hr
  rw [hr]at r3
  rw [bm rfl,bg (by decide),bg (by decide),Ab hsc,Cf hsc,be,be]
  cases hcb:Ol c with
  |false=>exact .inl ⟨210,by decide,by rw [bm (by decide)];rfl,by rw [bm (by decide)]⟩
  |true=>
   rw [bm rfl,bg (by decide),bg (by decide)]
   have hn: ∀n∈l.Nodes,n.Op=1→0≤n.Table:=fun n hn h1=>((Hc hS hL n hn).2 h1).1
   unfold xF AB
   have hz:jp l c dj (0:Int)=some (l.Nodes.all (p8 c)):=GT (by omega) hS hn hc l.Nodes 0 dj rfl (iK (by omega))
   rw [GI hc l.Nodes hn,hz,be,be]
   cases hs:l.Nodes.all (p8 c)with
   |false=>exact .inl ⟨2,by decide,by rw [bm (by decide)],by rw [bm (by decide)]⟩
   |true=>
    rw [bg (by decide),bg (by decide)]
    have hle:=hL.le
    have hpos:=hL.pos
    have H:Bo l (u6 ob.first) (CZ ob.kinds):=fun j hj=>y8 hL.inv hle hj
    obtain⟨nl,FL⟩:=H (l.Nodes.length-1) (by omega)
    have hzl:=FL.le
    rw [Cl c hS r3 hL l.Nodes 0 [] rfl (by omega) rfl]
    obtain⟨pk,hpk⟩: ∃pk,pk=(List.range l.Nodes.length).map (CZ ob.kinds):=⟨_,rfl⟩
    rw [←hpk]
    obtain⟨p,hp⟩: ∃p:ay,p=⟨⟨[]⟩,l,c,pk⟩:=⟨_,rfl⟩
    have hpm:p=oU p []:=by rw [hp];rfl
    have hP:QX l c (CZ ob.kinds) p:=by
     refine⟨by rw [hp],by rw [hp],fun j hj=>?_⟩
     rw [hp]
     show cK pk (j:Int)=_
     rw [cg,hpk,Ap,List.getElem?_range hj];rfl
    have hT: ∀n∈l.Nodes,n.Op=1→ ∃t,cK c.Tables n.Table=some t∧t.Keys.length≤100:=by
     intro n hnm h1
     have:=mP.1 hs n hnm
     unfold p8 at this
     rw [bm h1]at this
     cases hx:cK c.Tables n.Table with
     |none=>rw [hx]at this;cases this
     |some t=>
      obtain⟨_,h2⟩:=jZ hx
      have:=(hc t (qE h2)).1
      exact⟨t,rfl,by omega⟩
    have hks: ∀j,j<l.Nodes.length→kX l (j:Int)=some (CZ ob.kinds j,true):=fun j hj=>(hL.inv.at hj).1.kinds dj (iK (by omega))
    obtain⟨s,f2,g1,g2,g3,g4,g5,g6,g7⟩:=Iy hS hle H hks hP hT (l.Nodes.length-1) (by omega) dj (iK (by omega)) [] (by simp;omega)
    simp only [q7,o0]at g7
    have hk1:=g3.kinds
    have hG:=(g4.lone.one (s:=s) g3.at_).lone'
    have hO:=g3.one (fs:=f2)
    have hfl:=vK s f2
    obtain⟨L,hLL⟩: ∃L,L=nX s f2++[(⟨(qN s f2).nodes,2,4,[]⟩:bk)]:=⟨_,rfl⟩
    have hLl:L.length=(nX s f2).length+1:=by rw [hLL];simp
    have e1:jT l [] l.Nodes.length p=some (AF L):=by
     unfold jT oz
     rw [bP (by omega) (by omega),show(l.Nodes.length:Int)-1=((l.Nodes.length-1:Nat):Int)from by omega,hpm,g1,be]
     show((cU (oU p f2) s).bind _)=_
     rw [tI (by omega) (by omega),be]
     show((iC (nX s f2) [(⟨(qN s f2).nodes,2,4,[]⟩:bk)]).bind _)=_
     rw [ca (by simp;omega),be,←hLL,NK]
     unfold AF
     by_cases h30:30<L.length
     ·rw [bg (by simp;omega),be,bm rfl,bm (by simp [h30])]
     ·rw [bm (by simp;omega),be,be,my h30,u0]
      split<;>rfl
    have e2:((sX l c (IntKind.i64.wrap ((l.Nodes.length:Int)-(1:Int))) ([])).bind fun r3=>
 (dC r3).bind fun r4=>
 (iC ([]:List bk) r4.Frags).bind fun l1=>
 (iC l1 ([(⟨r4.Nodes,(2:Int),(4:Int),[]⟩:bk)])).bind fun l2=>
 if(decide ((30:Int)<(((⟨l2⟩:cC).Frags).length:Int)))then
 (some ((⟨[]⟩:cC),(3:Int)))
 else
 (lL l2 dj (0:Int) (⟨[]⟩:cC)))=some (AF L):=by
     unfold sX
     rw [bP (by omega) (by omega),show(l.Nodes.length:Int)-1=((l.Nodes.length-1:Nat):Int)from by omega,g2,be,ww g3 (by omega),be]
     show((iC ([]:List bk) (nX s f2)).bind _)=_
     rw [ca (by simp;omega),be,iv]
     show((iC (nX s f2) [(⟨(qN s f2).nodes,2,4,[]⟩:bk)]).bind _)=_
     rw [ca (by simp;omega),be,←hLL]
     show(if(decide ((30:Int)<(L.length:Int)))=true then _ else _)=_
     unfold AF
     by_cases h30:30<L.length
     ·rw [bm (by simp;omega),bm (by simp [h30])]
     ·rw [bg (by simp;omega),my h30,u0]
      exact IK L (by omega) _ L 0 dj rfl (iK (by omega))
    rw [←hp,e1]
    by_cases hR:(decide (30<L.length)||L.any fun f=>decide (60<f.Nodes.length))=true
    ·refine .inl ⟨3,by decide,?_,?_⟩
     ·unfold AF;rw [bm hR]
     ·refine e2.trans ?_
      unfold AF;rw [bm hR]
    ·have hv:AF L=(⟨L⟩,0):=by unfold AF;rw [bg hR]
     simp only [u3,oV,A3,not_or,not_exists,not_and]at hR
     refine .inr ⟨qN s f2,nX s f2,hO,hG,by omega,?_,?_,?_⟩
     ·rw [←hLL]
      intro f hf
      have:=hR.2 f hf
      omega
     ·rw [←hLL,hv]
     ·rw [←hLL];exact e2.trans (by rw [hv])
theorem MU{k:Int}{i:Nat}: ∀{ns:List M} {m:Nat},ev ns k→O4 k i ns m≠[]
 |[],_,h=>by obtain⟨n,hn,_⟩:=h;cases hn
 |n::tl,m,h=>by
  unfold O4
  by_cases hc:((n.Op==(9:Int))&&(n.Table==k))=true
  ·rw [bm hc];simp
  ·rw [bg hc]
   obtain⟨x,hx,h1,h2⟩:=h
   rcases gz.1 hx with rfl|hx
   ·exact absurd (by simp [h1,h2]) hc
   ·exact MU ⟨x,hx,h1,h2⟩
theorem IN{k:Int}: ∀{fs:List bk} {a i:Nat} {f:bk},fs[a]? =some f→ev f.Nodes k→H9 k fs i≠[]
 |[],a,i,f,h,_=>by simp at h
 |g::tl,0,i,f,h,ht=>by
  have:g=f:=by simpa using h
  subst this
  unfold H9
  intro e
  exact MU ht (List.append_eq_nil_iff.1 e).1
 |g::tl,a+1,i,f,h,ht=>by
  unfold H9
  intro e
  exact IN (fs:=tl) (a:=a) (by simpa using h) ht (List.append_eq_nil_iff.1 e).2
theorem Cq{v:Bool}{k:Int}: ∀(m:List (Int×Bool)),(dM m k v).length≤m.length+1
 |[]=>by simp [dM]
 |p::m=>by
  have:=Cq (v:=v) (k:=k) m
  unfold dM
  split<;>simp<;>omega
section
variable{fs:List bk}{g:bk}
theorem KA{a:Nat}{f:bk}(h:(fs++[g])[a]? =some f):(a<fs.length∧fs[a]? =some f)∨(a=fs.length∧f=g):=by
 have ha:=(oT.1 h).1
 simp only [jA,gJ,q7]at ha
 by_cases h1:a<fs.length
 ·rw [t8 h1]at h;exact .inl ⟨h1,h⟩
 ·have:a=fs.length:=by omega
  subst this
  rw [o5 (dN _)]at h
  exact .inr ⟨rfl,by simpa using h.symm⟩
theorem D0{k:Nat}{x:Int×Int}{p:cC}(hp:p.Frags=fs++[g])(hG:iX [] fs (ev g.Nodes))(h:x∈H9 (k:Int) p.Frags 0):k<fs.length∧(k:Int)<x.1:=by
 rw [hp]at h
 obtain⟨a,f,j,n,g0,g1,g2,g3,g4⟩:=J9 h
 have ht:ev f.Nodes (k:Int):=⟨n,qE g1,g3,g4⟩
 rw [g2]
 show _∧(k:Int)<((0+a:Nat):Int)
 rcases KA g0 with⟨h1,h2⟩|⟨h1,h2⟩
 ·have:=hG.lowF a f (gx _) h2 _ ht
  omega
 ·subst h2
  have:=hG.low _ ht
  omega
theorem MT{p:cC}(hp:p.Frags=fs++[g])(hG:iX [] fs (ev g.Nodes)):O3 p (fs.length:Int)= -1:=by
 unfold O3
 cases h:H9 (fs.length:Int) p.Frags 0 with
 |nil=>rfl
 |cons x tl=>
  have:=(D0 (x:=x) hp hG (by rw [h];exact nm ..)).1
  omega
theorem MS{p:cC}(hp:p.Frags=fs++[g])(hG:iX [] fs (ev g.Nodes)){k:Nat}(hk:k<fs.length):(k:Int)<O3 p (k:Int):=by
 unfold O3
 cases h:H9 (k:Int) p.Frags 0 with
 |nil=>
  exfalso
  rcases hG.read k (gx _) hk with h1|⟨j,f,h1,h2,h3⟩
  ·refine IN (fs:=p.Frags) (a:=fs.length) (i:=0) (f:=g) ?_ h1 h
   rw [hp,o5 (dN _)];simp
  ·refine IN (fs:=p.Frags) (a:=j) (i:=0) (f:=f) ?_ h3 h
   rw [hp,t8 (oT.1 h2).1];exact h2
 |cons x tl=>exact(D0 (x:=x) hp hG (by rw [h];exact nm ..)).2
theorem IM{p:cC}(hp:p.Frags=fs++[g])(hG:iX [] fs (ev g.Nodes))(hl:fs.length≤29)(hg:g.At=2): ∀(tl:List bk) (i:Nat) (read:List (Int×Bool)),(fs++[g]).drop i=tl→i≤fs.length→read.length≤i→ic (p,0) tl i read=some true:=by
 have hpl:p.Frags.length=fs.length+1:=by rw [hp];simp
 intro tl
 induction tl with
 |nil=>
  intro i read hd hi hr
  have:=ye.1 hd
  simp at this
  omega
 |cons f tl ih=>
  intro i read hd hi hr
  obtain⟨h1,h2,h3⟩:=im hd
  have h1' :(fs++[g])[i]? =some f:=by rw [cg]at h1;exact h1
  have hF:xW p (i:Int):=⟨by omega,by omega,by omega,by omega⟩
  have hP:nP p (i:Int) 3=some (uh f 3,0):=JE (n:=3) hF (by omega) (by rw [hp];exact h1)
  unfold ic
  show((qd p (i:Int)).bind fun r4=>(nP p (i:Int) 3).bind _)=_
  rw [JA hF,be,hP,be,bg (by simp)]
  dsimp only
  rw [bP (by omega) (by omega)]
  rcases KA h1' with⟨k1,k2⟩|⟨k1,k2⟩
  ·have hlt:=MS hp hG k1
   have hat:=hG.at_ i f (gx _) k2
   rw [bg (by simp;omega),bg ?_]
   ·exact ih (i+1) _ h3 (by omega) (by have:=Cq (v:=true) (k:=O3 p (i:Int)) read;show(dM read (O3 p (i:Int)) true).length≤_;omega)
   ·have:(uh f 3).length=1∨(uh f 3).length=3:=by
     unfold uh
     split
     ·exact .inl rfl
     ·exact .inr (by simp [kL])
    simp
    refine⟨by omega,by omega⟩
  ·subst k1
   rw [k2]at*
   have hs:uh g 3=[0]:=by unfold uh;rw [bm hg]
   rw [bm (by simp;omega),MT hp hG,hs]
   simp [hr]
   rfl
end
theorem zR(l:bK)(c:bG):oH l c=some true:=by
 unfold oH
 rw [EQ,be,bg (by simp)]
 obtain⟨b,h1,h2⟩:=O7 l.Nodes
 obtain⟨o,h3,h4⟩:=Bd c
 rw [h1,be,h3]
 cases b with
 |true=>rfl
 |false=>
  cases o with
  |true=>rfl
  |false=>
   rw [bm (by rfl),be,be,bg (by decide)]
   obtain⟨hl,hS⟩:=h2 rfl
   obtain⟨ht,hc⟩:=h4 rfl
   rcases Lk hl hS ht hc with⟨e,he,e1,_⟩|⟨s,fs,hs,hG,hf,_,e1,_⟩
   ·rw [e1,be,bm (by simpa using he)]
    rfl
   ·rw [e1,be,bg (by simp)]
    exact IM (g:=⟨s.nodes,2,4,[]⟩) rfl hG hf rfl _ 0 [] rfl (gx _) (gx _)
end Go.Proofs.YtnmjbolollcokaaGreatDoor

