/- dr of this claim: U9. -/
import Derived.Test.YtnmjbolollcokaaGreatDoorRdU8
set_option linter.all false
namespace Go.Proofs.YtnmjbolollcokaaGreatDoor
open Go

theorem CL(c:ce): ∃o,o9 c=some o∧(o=false→c.Tables.length≤10∧ ∀t∈c.Tables,t.Keys.length≤10∧t.Columns.length≤10):=by
 have hl2: ∀(nx:Option Bool) (l:List bT),jg nx l=some true∨jg nx l=nx:=by
  intro nx l
  induction l with
  |nil=>exact .inr rfl
  |cons x l ih=>
   unfold jg
   split
   ·exact .inl rfl
   ·exact ih
 have hl1: ∀l:List ca,∃o,hX l=some o∧(o=false→ ∀t∈l,t.Keys.length≤10∧t.Columns.length≤10):=by
  intro l
  induction l with
  |nil=>exact⟨false,rfl,fun _ t ht=>by cases ht⟩
  |cons x l ih=>
   obtain⟨o,h1,h2⟩:=ih
   unfold hX
   split
   ·exact⟨true,rfl,fun h=>by cases h⟩
   ·rename_i hc
    rcases hl2 (hX l) x.Columns with h|h
    ·exact⟨true,h,fun h=>by cases h⟩
    ·refine⟨o,by rw [h,h1],fun ho t ht=>?_⟩
     rcases jl.1 ht with rfl|ht
     ·simp at hc;omega
     ·exact h2 ho t ht
 unfold o9
 split
 ·exact⟨true,rfl,fun h=>by cases h⟩
 ·rename_i hc
  obtain⟨o,h1,h2⟩:=hl1 c.Tables
  exact⟨o,h1,fun ho=>⟨by simp at hc;omega,h2 ho⟩⟩
def sk(c:ce)(n:af):Bool:=if n.Op=1 then(match dw c.Tables n.Table with|some t=>decide (t.Columns.map bT.Kind=n.Kinds)|none=>false)else true
theorem H9(nx:Option Bool)(e:af): ∀(cols:List bT) (ks:List Int),ks.length+cols.length≤1000→nQ nx e cols ks=if ks++cols.map bT.Kind=e.Kinds then nx else some false
 |[],ks,_=>by
  unfold nQ rN
  rw [yb,bC,z6,zU]
  by_cases h:ks=e.Kinds
  ·rw [bS h,qn h,bM (by simp)]
  ·rw [bM h,oQ h,bS (by simp)]
 |x::tl,ks,h=>by
  simp only [iR]at h
  unfold nQ
  rw [cP (by simp;omega),bC,H9 nx e tl _ (by simp;omega),yE,iS]
  rfl
theorem IV{α:Type}{xs:List α}{i:Int}(h:(xs.length:Int)≤i):dw xs i=none:=by
 obtain⟨k,rfl⟩:=Int.eq_ofNat_of_zero_le (show 0≤i by omega)
 rw [cQ]
 exact HF (by omega)
theorem FU{α:Type}{xs:List α}{i:Int}(h0:0≤i)(h:i<(xs.length:Int)): ∃x,dw xs i=some x∧x∈xs:=by
 obtain⟨k,rfl⟩:=Int.eq_ofNat_of_zero_le h0
 refine⟨xs[k]'(by omega),?_,List.getElem_mem _⟩
 rw [cQ]
 exact q6 _
section
variable{c:ce}
theorem Ia(hc: ∀t∈c.Tables,t.Keys.length≤10∧t.Columns.length≤10): ∀ns:List af,(∀n∈ns,n.Op=1→0≤n.Table)→kQ c ns=some (ns.all (sk c))
 |[],_=>rfl
 |n::tl,h=>by
  have ih:=Ia hc tl fun m hm=>h m (pS _ hm)
  have hn:=h n (iA ..)
  unfold kQ
  rw [w9]
  by_cases h1:n.Op=1
  ·rw [bM (by simp [h1])]
   by_cases h2:(c.Tables.length:Int)≤n.Table
   ·rw [bS (by simpa using h2)]
    have:sk c n=false:=by unfold sk;rw [bS h1,IV h2]
    rw [this];rfl
   ·obtain⟨t,ht,htm⟩:=FU (xs:=c.Tables) (hn h1) (by omega)
    have:=(hc t htm).2
    rw [bM (by simpa using h2),ht,bC,H9 _ _ _ _ (by simp;omega),ke,ih]
    have:sk c n=decide (t.Columns.map bT.Kind=n.Kinds):=by unfold sk;rw [bS h1,ht]
    rw [this]
    by_cases h3:t.Columns.map bT.Kind=n.Kinds
    ·rw [bS h3,qn h3];rfl
    ·rw [bM h3,oQ h3];rfl
  ·rw [bS (by simpa using h1)]
   have:sk c n=true:=by unfold sk;rw [bM h1]
   rw [this,w8]
   exact ih
theorem Ii(nx:Int→Option Bool)(i:Nat)(hi:i≤1000){e:af}{t:ca}(ht:dw c.Tables e.Table=some t)(hl:t.Columns.length=e.Kinds.length)(hk:e.Kinds.length≤1000): ∀(tl:List Int) (k fu:Nat),e.Kinds.drop k=tl→tl.length<fu→mP c nx (i:Int) e fu (k:Int)=if(t.Columns.drop k).map bT.Kind=tl then nx ((i+1:Nat):Int)else some false:=by
 intro tl
 induction tl with
 |nil=>
  intro k fu hd hf
  obtain⟨fu,rfl⟩: ∃m,fu=m+1:=⟨fu-1,by omega⟩
  have h0:e.Kinds.length≤k:=zY.1 hd
  unfold mP oz
  rw [bM (by simp;omega),cA (by omega) (by omega),Bf (by omega:t.Columns.length≤k),bS (by rfl)]
  rfl
 |cons x tl ih=>
  intro k fu hd hf
  simp only [iR]at hf
  obtain⟨fu,rfl⟩: ∃m,fu=m+1:=⟨fu-1,by omega⟩
  obtain⟨h1,h2,h3⟩:=ie hd
  have hkt:k<t.Columns.length:=by omega
  have hg:dw t.Columns (k:Int)=some t.Columns[k]:=by rw [cQ];exact q6 hkt
  unfold mP
  rw [bS (by simp;omega),ht,bC,hg,bC,h1,bC,r0 hkt,yE]
  by_cases h:t.Columns[k].Kind=x
  ·rw [bM (by simp [h]),cA (by omega) (by omega),show(k:Int)+1=((k+1:Nat):Int)from by omega,ih (k+1) fu h3 (by omega)]
   by_cases h' :(t.Columns.drop (k+1)).map bT.Kind=tl
   ·rw [bS h',bS (by rw [h,h'])]
   ·rw [bM h',bM (fun hh=>h' (List.cons.inj hh).2)]
  ·rw [bS (by simpa using h),bM (fun hh=>h (List.cons.inj hh).1)]
theorem Ij{l:bR}(hl:l.Nodes.length≤100)(hS:p9 l)(hn: ∀n∈l.Nodes,n.Op=1→0≤n.Table)(hc: ∀t∈c.Tables,t.Keys.length≤10∧t.Columns.length≤10): ∀(tl:List af) (i fu:Nat),l.Nodes.drop i=tl→tl.length<fu→il l c fu (i:Int)=some (tl.all (sk c)):=by
 intro tl
 induction tl with
 |nil=>
  intro i fu hd hf
  obtain⟨fu,rfl⟩: ∃m,fu=m+1:=⟨fu-1,by omega⟩
  have h0:l.Nodes.length≤i:=zY.1 hd
  unfold il
  rw [bM (by simp;omega)]
  rfl
 |cons n tl ih=>
  intro i fu hd hf
  simp only [iR]at hf
  obtain⟨fu,rfl⟩: ∃m,fu=m+1:=⟨fu-1,by omega⟩
  obtain⟨h1,h2,h3⟩:=ie hd
  have hnm:n∈l.Nodes:=by rw [cQ]at h1;exact ta h1
  have ih' :=ih (i+1) fu h3 (by omega)
  unfold il
  rw [bS (by simp;omega),h1,bC,w9]
  by_cases ho:n.Op=1
  ·rw [bM (by simp [ho])]
   by_cases h4:(c.Tables.length:Int)≤n.Table
   ·rw [bM (by simpa using h4),bC,bS rfl]
    have:sk c n=false:=by unfold sk;rw [bS ho,IV h4]
    rw [this];rfl
   ·obtain⟨t,ht,htm⟩:=FU (xs:=c.Tables) (hn n hnm ho) (by omega)
    have hcl:=(hc t htm).2
    rw [bS (by simpa using h4),ht,bC,bC]
    have hs:sk c n=decide (t.Columns.map bT.Kind=n.Kinds):=by unfold sk;rw [bS ho,ht]
    rw [hs]
    by_cases hk:t.Columns.length=n.Kinds.length
    ·rw [bM (by simp [hk]),show((0:Int))=((0:Nat):Int)from rfl,Ii _ i (by omega) ht hk (by omega) n.Kinds 0 cZ rfl (iF (by omega)),sM,ih']
     by_cases h5:t.Columns.map bT.Kind=n.Kinds
     ·rw [bS h5,qn h5];rfl
     ·rw [bM h5,oQ h5];rfl
    ·rw [bS (by simp;omega)]
     have: ¬t.Columns.map bT.Kind=n.Kinds:=fun h=>hk (by rw [←h,List.length_map])
     rw [oQ this];rfl
  ·rw [bS (by simpa using ho)]
   have:sk c n=true:=by unfold sk;rw [bM ho]
   rw [this,w8]
   unfold oz
   rw [cA (by omega) (by omega)]
   exact ih'
end
theorem MQ{l:bR}(hS:p9 l){ob:aG}{j:Int}(uU:nm l=some (ob,j,true))(hL:EB l ob){p:Nat}(hp:p<l.Nodes.length):wo l (p:Int)=some (xE l (p+1-wY ob.first p) p,0):=by
 have hle:=hL.le
 obtain⟨N0,hf⟩:=hL.inv.at hp
 have h1:=N0.pos
 have h2:=N0.le
 have hfi:dw ob.first (p:Int)=some ((p+1-wY ob.first p:Nat):Int):=by rw [cQ,hf];congr 1;omega
 unfold wo
 rw [uU]
 simp only [bC,oh,mA,ji]
 rw [bM (by simp;omega),hfi]
 simp only [bC]
 rw [KR hS hle hp (by omega) ((l.Nodes.take (p+1)).drop (p+1-wY ob.first p)) (p+1-wY ob.first p) cZ _ rfl (by simp;omega) (iF (by simp;omega)) (by simp)]
 rfl
theorem DW{l:bR}(c:ce)(hS:p9 l){ob:aG}{j:Int}(uU:nm l=some (ob,j,true))(hL:EB l ob): ∀(tl:List af) (i:Nat) (pk:List (List Int)),l.Nodes.drop i=tl→i+tl.length=l.Nodes.length→pk=(List.range i).map (EH ob.kinds)→
  lQ l tl i (⟨⟨[]⟩,l,c,pk⟩:aO)=lQ l [] l.Nodes.length (⟨⟨[]⟩,l,c,(List.range l.Nodes.length).map (EH ob.kinds)⟩:aO)
 |[],i,pk,_,hi,hp=>by
  simp only [sN,yD]at hi
  rw [hp,hi]
 |n::tl,i,pk,hd,hi,hp=>by
  obtain⟨h1,h2,h3⟩:=ie hd
  simp only [iR]at hi
  have hle:=hL.le
  have H:CW l (wY ob.first) (EH ob.kinds):=fun j hj=>AO hL.inv hle hj
  obtain⟨m,F⟩:=H i h2
  have hz:=F.le
  have hz1:=F.pos
  have hpe:=MQ hS uU hL h2
  have hPF:=D2 H hle h2 hz
  obtain⟨sz',ks',K⟩:=O3 (Av hS (i+1-wY ob.first i) i) (Kb H hle h2 hz hz1)
  have hk:=(IK (Av hS (i+1-wY ob.first i) i) K hPF).1
  have hkk:=K.kinds
  rw [←hk,wl h2,show i+1-wY ob.first i+(i+1-(i+1-wY ob.first i)-1)=i from by omega]at hkk
  conv=>lhs;unfold lQ
  rw [hpe,bC]
  show((sE (xE l (i+1-wY ob.first i) i)).bind _)=_
  rw [hkk,bC]
  show((kq pk [EH ob.kinds i]).bind _)=_
  rw [cP (by rw [hp];simp;omega),bC]
  exact DW c hS uU hL tl (i+1) _ h3 (by omega) (by rw [hp,List.range_succ,Dh];rfl)
def Ce(L:List bK):dp×Int:=if(decide (30<L.length)||L.any fun f=>decide (60<f.Nodes.length))=true then(⟨[]⟩,3)else(⟨L⟩,0)
theorem IZ: ∀(L:List bK) (i:Nat),∃r,dQ qj L i=some r∧decide (0≤r)=L.any fun f=>decide (60<f.Nodes.length)
 |[],i=>⟨-1,rfl,rfl⟩
 |f::tl,i=>by
  unfold dQ qj
  rw [bC,xd]
  by_cases h:60<f.Nodes.length
  ·rw [bS (by simp;omega),qn h]
   exact⟨_,rfl,by simp⟩
  ·rw [bM (by simp;omega),oQ h]
   exact IZ tl (i+1)
theorem Ph(L:List bK):eT L qj=some (L.any fun f=>decide (60<f.Nodes.length)):=by
 obtain⟨r,h1,h2⟩:=IZ L 0
 unfold eT iu
 rw [h1,bC,h2]
theorem J6(L:List bK)(hL:L.length≤30)(x:dp): ∀(tl:List bK) (i fu:Nat),L.drop i=tl→tl.length<fu→mi L fu (i:Int) x=some (if(tl.any fun f=>decide (60<f.Nodes.length))=true then(⟨[]⟩,3)else(⟨L⟩,0)):=by
 intro tl
 induction tl with
 |nil=>
  intro i fu hd hf
  obtain⟨fu,rfl⟩: ∃m,fu=m+1:=⟨fu-1,by omega⟩
  have h0:L.length≤i:=zY.1 hd
  unfold mi
  rw [bM (by simp;omega)]
  rfl
 |cons f tl ih=>
  intro i fu hd hf
  simp only [iR]at hf
  obtain⟨fu,rfl⟩: ∃m,fu=m+1:=⟨fu-1,by omega⟩
  obtain⟨h1,h2,h3⟩:=ie hd
  unfold mi
  rw [bS (by simp;omega)]
  show((dw L (i:Int)).bind _)=_
  rw [h1,bC,xd]
  by_cases h:60<f.Nodes.length
  ·rw [bS (by simp;omega),qn h];rfl
  ·rw [bM (by simp;omega),oQ h,wS,cA (by omega) (by omega)]
   exact ih (i+1) fu h3 (by omega)
theorem MO{l:bR}{c:ce}(hl:l.Nodes.length≤65)(hS:p9 l)(ht:c.Tables.length≤10)(hc: ∀t∈c.Tables,t.Keys.length≤10∧t.Columns.length≤10):
  (∃e,e≠0∧qk l c=some (⟨[]⟩,e)∧pW l c=some (⟨[]⟩,e))∨
  ∃s fs,tG s∧lz [] fs (gX s.nodes)∧fs.length≤29∧(∀f∈fs++[(⟨s.nodes,2,4,[]⟩:bK)],f.Nodes.length≤60)∧qk l c=some (⟨fs++[⟨s.nodes,2,4,[]⟩]⟩,0)∧pW l c=some (⟨fs++[⟨s.nodes,2,4,[]⟩]⟩,0):=by
 have hsc:Hw c:=fun t htm=>by have:=(hc t htm).1;omega
 obtain⟨r1,⟨jj,r2⟩,ob,j,r3,r4⟩:=If hS
 unfold qk pW
 rw [r1,r2,bC,bC]
 cases hr:sQ l with
 |false=>exact .inl ⟨230,by decide,by rw [bS (by rfl)];rfl,by rw [bS (by decide)]⟩
 |true=>
  obtain⟨hL,hj⟩:=r4 hr
  rw [hr]at r3
  rw [bS rfl,bM (by decide),bM (by decide),BL hsc,DN hsc,bC,bC]
  cases hcb:Qd c with
  |false=>exact .inl ⟨210,by decide,by rw [bS (by decide)];rfl,by rw [bS (by decide)]⟩
  |true=>
   rw [bS rfl,bM (by decide),bM (by decide)]
   have hn: ∀n∈l.Nodes,n.Op=1→0≤n.Table:=fun n hn h1=>((IF hS hL n hn).2 h1).1
   unfold zC xx
   have hz:il l c cZ (0:Int)=some (l.Nodes.all (sk c)):=Ij (by omega) hS hn hc l.Nodes 0 cZ rfl (iF (by omega))
   rw [Ia hc l.Nodes hn,hz,bC,bC]
   cases hs:l.Nodes.all (sk c)with
   |false=>exact .inl ⟨2,by decide,by rw [bS (by decide)],by rw [bS (by decide)]⟩
   |true=>
    rw [bM (by decide),bM (by decide)]
    have hle:=hL.le
    have hpos:=hL.pos
    have H:CW l (wY ob.first) (EH ob.kinds):=fun j hj=>AO hL.inv hle hj
    obtain⟨nl,FL⟩:=H (l.Nodes.length-1) (by omega)
    have hzl:=FL.le
    rw [DW c hS r3 hL l.Nodes 0 [] rfl (by omega) rfl]
    obtain⟨pk,hpk⟩: ∃pk,pk=(List.range l.Nodes.length).map (EH ob.kinds):=⟨_,rfl⟩
    rw [←hpk]
    obtain⟨p,hp⟩: ∃p:aO,p=⟨⟨[]⟩,l,c,pk⟩:=⟨_,rfl⟩
    have hpm:p=qU p []:=by rw [hp];rfl
    have hP:S4 l c (EH ob.kinds) p:=by
     refine⟨by rw [hp],by rw [hp],fun j hj=>?_⟩
     rw [hp]
     show dw pk (j:Int)=_
     rw [cQ,hpk,B2,List.getElem?_range hj];rfl
    have hT: ∀n∈l.Nodes,n.Op=1→ ∃t,dw c.Tables n.Table=some t∧t.Keys.length≤100:=by
     intro n hnm h1
     have:=pi.1 hs n hnm
     unfold sk at this
     rw [bS h1]at this
     cases hx:dw c.Tables n.Table with
     |none=>rw [hx]at this;cases this
     |some t=>
      obtain⟨_,h2⟩:=lW hx
      have:=(hc t (ta h2)).1
      exact⟨t,rfl,by omega⟩
    have hks: ∀j,j<l.Nodes.length→lM l (j:Int)=some (EH ob.kinds j,true):=fun j hj=>(hL.inv.at hj).1.kinds cZ (iF (by omega))
    obtain⟨s,f2,g1,g2,g3,g4,g5,g6,g7⟩:=JX hS hle H hks hP hT (l.Nodes.length-1) (by omega) cZ (iF (by omega)) [] (by simp;omega)
    simp only [sN,q7]at g7
    have hk1:=g3.kinds
    have hG:=(g4.lone.one (s:=s) g3).lone'
    have hO:=g3.one (fs:=f2)
    have hfl:=xF s f2
    obtain⟨L,hLL⟩: ∃L,L=qp s f2++[(⟨(tm s f2).nodes,2,4,[]⟩:bK)]:=⟨_,rfl⟩
    have hLl:L.length=(qp s f2).length+1:=by rw [hLL];simp
    have e1:lQ l [] l.Nodes.length p=some (Ce L):=by
     unfold lQ qE
     rw [cA (by omega) (by omega),show(l.Nodes.length:Int)-1=((l.Nodes.length-1:Nat):Int)from by omega,hpm,g1,bC]
     show((dS (qU p f2) s).bind _)=_
     rw [vB (by omega) (by omega),bC]
     show((kq (qp s f2) [(⟨(tm s f2).nodes,2,4,[]⟩:bK)]).bind _)=_
     rw [cP (by simp;omega),bC,←hLL,Ph]
     unfold Ce
     by_cases h30:30<L.length
     ·rw [bM (by simp;omega),bC,bS rfl,bS (by simp [h30])]
     ·rw [bS (by simp;omega),bC,bC,oQ h30,wS]
      split<;>rfl
    have e2:((rE l c (IntKind.i64.wrap ((l.Nodes.length:Int)-(1:Int))) ([])).bind fun r3=>
 (eh r3).bind fun r4=>
 (kq ([]:List bK) r4.Frags).bind fun l1=>
 (kq l1 ([(⟨r4.Nodes,(2:Int),(4:Int),[]⟩:bK)])).bind fun l2=>
 if(decide ((30:Int)<(((⟨l2⟩:dp).Frags).length:Int)))then
 (some ((⟨[]⟩:dp),(3:Int)))
 else
 (mi l2 cZ (0:Int) (⟨[]⟩:dp)))=some (Ce L):=by
     unfold rE
     rw [cA (by omega) (by omega),show(l.Nodes.length:Int)-1=((l.Nodes.length-1:Nat):Int)from by omega,g2,bC,yp g3 (by omega),bC]
     show((kq ([]:List bK) (qp s f2)).bind _)=_
     rw [cP (by simp;omega),bC,ke]
     show((kq (qp s f2) [(⟨(tm s f2).nodes,2,4,[]⟩:bK)]).bind _)=_
     rw [cP (by simp;omega),bC,←hLL]
     show(if(decide ((30:Int)<(L.length:Int)))=true then _ else _)=_
     unfold Ce
     by_cases h30:30<L.length
     ·rw [bS (by simp;omega),bS (by simp [h30])]
     ·rw [bM (by simp;omega),oQ h30,wS]
      exact J6 L (by omega) _ L 0 cZ rfl (iF (by omega))
    rw [←hp,e1]
    by_cases hR:(decide (30<L.length)||L.any fun f=>decide (60<f.Nodes.length))=true
    ·refine .inl ⟨3,by decide,?_,?_⟩
     ·unfold Ce;rw [bS hR]
     ·refine e2.trans ?_
      unfold Ce;rw [bS hR]
    ·have hv:Ce L=(⟨L⟩,0):=by unfold Ce;rw [bM hR]
     simp only [xa,q8,Cy,not_or,not_exists,not_and]at hR
     refine .inr ⟨tm s f2,qp s f2,hO,hG,by omega,?_,?_,?_⟩
     ·rw [←hLL]
      intro f hf
      have:=hR.2 f hf
      omega
     ·rw [←hLL,hv]
     ·rw [←hLL];exact e2.trans (by rw [hv])
section
variable{fs:List bK}{g:bK}
end
end Go.Proofs.YtnmjbolollcokaaGreatDoor

