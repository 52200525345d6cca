/- co of this claim: Z3. -/
import Derived.Test.YtmogpgcfognefaaGreatDoorNeZ2
import Derived.Test.YtmogpgcfognefaaGreatDoorNeY7
set_option linter.all false
namespace Go.Proofs.YtmogpgcfognefaaGreatDoor
open Go

theorem QN(n:Int):zd n=some (G3 n):=rfl
theorem OB(n:Int):zc n=some (Lh n):=rfl
def R6(r:List M)(c:Int):M:=(r[c.toNat]?).getD zV
theorem Jm{r:List M}{c:Int}(h0:0≤c)(h1:c<(r.length:Int)):dR r c=some (R6 r c):=by
 have hlt:c.toNat<r.length:=by omega
 rw [nh c.toNat (by omega)]
 unfold R6
 rw [pR hlt,Option.getD_some]
theorem Jt{r:List M}: ∀{ks:List Int},(∀c∈ks,0≤c∧c<(r.length:Int))→F2 (fun k v=>dR r k=some v) ks (ks.map (R6 r))
 |[],_=> .nil
 |c::ks,h=> .cons (Jm (h c (lV ..)).1 (h c (lV ..)).2) (Jt fun x hx=>h x (kG _ hx))
theorem Cd{s:List M}{g:Int→M}{Q:Int→Int→Prop}: ∀{ks ds:List Int},F2 Q ks ds→(∀c∈ks,∀d,Q c d→dR s d=some (g c))→F2 (fun k v=>dR s k=some v) ds (ks.map g)
 |_,_,.nil,_=> .nil
 |c::_,d::_,.cons h t,hg=> .cons (hg c (lV ..) d h) (Cd t fun x hx=>hg x (kG _ hx))
section
variable{ks cols:List Int}{y:bE}{nx:Nat→Option Bool}
theorem Rx{r s:List M}(hr:AF r)(hs:AF s)(hrl:r.length=4)(hsl:s.length≤16)(hks: ∀c∈ks,0≤c∧c<4)(hkl:ks.length≤4)(hc:(iY ks).Cols=ks)(h2:F2 (fun k v=>dR s k=some v) y.Cols (ks.map (R6 r)))(i:Nat):
  eQ ([iY ks,y],0) y nx i r s=nx (i+1):=by
 obtain⟨n,e1,e2⟩:=LJ hr hs (by omega) hsl (by omega) (Jt fun c hcm=>by have:=hks c hcm;omega) h2
 unfold eQ
 show((mU r (iY ks).Cols).bind _)=_
 rw [hc,e1,cq,e2,cq,dd (by simp)]
theorem Rr{r2:List bE×Int}{r:List M}(hrl:r.length=4)(i:Nat): ∀(gks:List Int) (s:List M),(∀c∈gks,0≤c∧c<4)→s.length+gks.length≤100→
  ea r2 y nx i r gks s=eQ r2 y nx i r (s++gks.map (R6 r))
 |[],s,_,_=>by unfold ea;simp
 |c::gks,s,h,hl=>by
  have hc:=h c (lV ..)
  rw [nG]at hl
  unfold ea
  rw [Jm hc.1 (by omega),cq,dM (by simp;omega),cq,Rr hrl i gks _ (fun x hx=>h x (kG _ hx)) (by simp;omega)]
  simp
theorem Rq{r2:List bE×Int}{r:List M}(hr:AF r)(hrl:r.length=4)(i:Nat): ∀(its:List bf) (s:List M),(∀e∈its,nW e)→s.length+its.length≤100→
  d9 r2 y nx i r its s=eQ r2 y nx i r (s++its.map (UG r))
 |[],s,_,_=>by unfold d9;simp
 |e::its,s,h,hl=>by
  rw [nG]at hl
  unfold d9
  rw [Ll (h e (lV ..)) hr hrl,cq,dd (by simp),dM (by simp;omega),cq,Rq hr hrl i its _ (fun x hx=>h x (kG _ hx)) (by simp;omega)]
  simp
def KP(x:List Int):List M:=x.map iV
theorem Mr{x:List Int}(h: ∀n∈x,r64 n):AF (KP x):=fun v hv=>by
 obtain⟨n,hn,rfl⟩:=Bf.1 hv
 exact⟨n,h n hn,rfl⟩
theorem Rs{n:aK}{r2:List bE×Int}{e6:List Int}(i:Nat): ∀(k j:Nat) (r:List M),r=KP (e6.take j)→j+k=e6.length→e6.length=4→
  eP n r2 y nx i e6 k j r=eP n r2 y nx i e6 0 4 (KP e6)
 |0,j,r,hr,hj,h4=>by
  have:j=4:=by omega
  subst this
  rw [hr,wb (by omega)]
 |k+1,j,r,hr,hj,h4=>by
  have hlt:j<e6.length:=by omega
  conv=>lhs;unfold eP
  rw [ii,pR hlt,cq]
  show((kE r [iV e6[j]]).bind _)=_
  rw [dM (by rw [hr];simp [KP];omega),cq]
  exact Rs i k (j+1) _ (by
   rw [hr];unfold KP;rw [List.map_take,List.map_take,List.take_add_one,CI,pR hlt];rfl) (by omega) h4
def FB(ks:List Int)(y:bE)(n:aK):Prop:= ∀(nx:Nat→Option Bool) (i:Nat) (r:List M),AF r→r.length=4→
 (if(n.Op==(4:Int))then(ea ([iY ks,y],0) y nx i r n.Keys ([]:List M))else(d9 ([iY ks,y],0) y nx i r n.Items ([]:List M)))=nx (i+1)
theorem Rt{n:aK}(hn:FB ks y n)(nx:Nat→Option Bool)(j:Nat): ∀(rows:List (List Int)) (i:Nat),(∀x∈rows,x.length=4∧ ∀v∈x,r64 v)→dD nx j n ([iY ks,y],0) y rows i=nx (j+1)
 |[],i,_=>rfl
 |x::rows,i,h=>by
  obtain⟨hx,hv⟩:=h x (lV ..)
  unfold dD
  split
  ·rfl
  ·rw [Rs i 4 0 [] rfl (by omega) hx]
   unfold eP
   rw [hn _ _ _ (Mr hv) (by simp [KP,hx])]
   exact Rt hn nx j rows (i+1) fun z hz=>h z (kG _ hz)
end
theorem E5{rows:List (List Int)}{t1:bu}{nx:Nat→Option Bool}{j:Nat}{n:aK}: ∀(k i:Nat) (own:List Int),own=List.replicate i 2++List.replicate k 0→
  eb rows t1 nx j n k i own=eb rows t1 nx j n 0 (i+k) (List.replicate (i+k) 2)
 |0,i,own,h=>by rw [h];simp
 |k+1,i,own,h=>by
  conv=>lhs;unfold eb
  have hlt:i<own.length:=by rw [h];simp
  rw [ii,pR hlt,cq,cq]
  rw [E5 k (i+1) _ (by
   rw [h,Ap,List.set_append_right _ _ (by simp)]
   simp only [CL,Nat.sub_self,FQ,List.set_cons_zero]
   rw [←FQ,List.replicate_succ',rR]
   rfl)]
  rw [show i+1+k=i+(k+1) by omega]
theorem Jl{m:Nat}(h1:1≤m)(h6:m≤6):E7 (AH (List.replicate m 2))=true:=by
 have:m=1∨m=2∨m=3∨m=4∨m=5∨m=6:=by omega
 rcases this with rfl|rfl|rfl|rfl|rfl|rfl<;>decide
theorem Eh{ks:List Int}{n:aK}{own:List Int}(hcat:G5 ⟨[kf ks]⟩=true)(hks:ks.length≤4)(h1:n.Op=5∨n.Op=4)(hA:n.A=0)(hB:n.B= -1)(hK:jY [jz,n]=some ([Il,own],0,0))(hI:E7 (AH own)=true)(h4:(4:Int)∉own){at1:Int→Option Int}
  (hat: ∀KS,I3 n.Op (some ⟨some ⟨hG n own,⟨[kf ks]⟩,KS⟩,n,iY ks,⟨0,[]⟩⟩)=jR (iY ks) at1)(ha: ∀c,∃r,at1 c=some r):
  ∃y,oI (hG n own) ⟨[kf ks]⟩ 0=some ([iY ks,y],0)∧(y.Kind=2→(iY ks).Cols=ks∧F2 (fun c d=>at1 c=some d∧0≤d) ks y.Cols):=by
 obtain⟨y,e1,e2⟩:=KU hks h1 hA hB (NY own) (hat _) ha
 refine⟨y,?_,e2⟩
 unfold oI
 rw [NB hcat hks h1 hK hI h4,cq,dd (by simp),dd (show¬((decide ((0:Int)<0))||(decide (((hG n own).Frags.length:Int)≤0)))=true from(show¬((decide ((0:Int)<0))||(decide ((2:Int)≤0)))=true by decide)),e1]
 rfl
theorem Ru{rows:List (List Int)}(hrows: ∀x∈rows,x.length=4∧ ∀v∈x,r64 v){ks:List Int}{nx:Nat→Option Bool}{j:Nat}{n:aK}{own:List Int}{at1:Int→Option Int}{i:Nat}
  (hP: ∃y,oI (hG n own) ⟨[kf ks]⟩ 0=some ([iY ks,y],0)∧(y.Kind=2→(iY ks).Cols=ks∧F2 (fun c d=>at1 c=some d∧0≤d) ks y.Cols))
  (hN: ∀y:bE,(iY ks).Cols=ks→F2 (fun c d=>at1 c=some d∧0≤d) ks y.Cols→FB ks y n):eb rows (kf ks) nx j n 0 i own=nx (j+1):=by
 obtain⟨y,e1,e2⟩:=hP
 unfold eb
 rw [show si ([(⟨(1:Int),(-1:Int),(-1:Int),(0:Int),[(2:Int),(2:Int),(2:Int),(2:Int)],false,(⟨[]⟩:bf),[],[],[],[],(0:Int)⟩:aK),n]) own=some (hG n own)from rfl,cq,e1,cq,dd (by simp),
  show dR (([iY ks,y],(0:Int)):List bE×Int).1 (1:Int)=some y from rfl,cq]
 by_cases hy:y.Kind=2
 ·obtain⟨g1,g2⟩:=e2 hy
  rw [dd (by simp [hy])]
  exact Rt (hN y g1 g2) nx j rows 0 hrows
 ·rw [dy (by simpa using hy)]
  rfl
theorem UF(c:Int){e:bf}(h:nW e): ∃b,eL c e=some b∧(b=true→ ∀r:List M,0≤c→c<4→UG r e=R6 r c):=by
 rcases h with⟨x,hx,rfl⟩|⟨n,_,rfl⟩
 ·refine⟨x==c,?_,fun h r _ _=>?_⟩
  ·cases hb:(x==c)
   ·show some (x==c)=_
    rw [hb]
   ·show some (x==c)=_
    rw [hb]
  ·rw [xn]at h
   subst h
   rfl
 ·exact⟨false,rfl,fun h=>by cases h⟩
theorem tW(c:Int): ∀(its:List bf) (i:Nat),(∀e∈its,nW e)→ ∃j:Int,de (eL c) its i=some j∧(0≤j→ ∃k:Nat,j=((i+k:Nat):Int)∧k<its.length∧ ∀r:List M,0≤c→c<4→(its[k]?).map (UG r)=some (R6 r c))
 |[],i,_=>⟨-1,rfl,fun h=>by omega⟩
 |e::its,i,h=>by
  obtain⟨b,hb,hv⟩:=UF c (h e (lV ..))
  unfold de
  rw [hb,cq]
  cases b with
  |true=>exact⟨_,rfl,fun _=>⟨0,rfl,by simp,fun r h0 h1=>by simpa using hv rfl r h0 h1⟩⟩
  |false=>
   obtain⟨j,g1,g2⟩:=tW c its (i+1) fun x hx=>h x (kG _ hx)
   rw [dd (by simp)]
   refine⟨j,g1,fun hj=>?_⟩
   obtain⟨k,k1,k2,k3⟩:=g2 hj
   exact⟨k+1,by rw [k1];omega,by simp;omega,fun r h0 h1=>by simpa using k3 r h0 h1⟩
theorem La{ks:List Int}(hks: ∀c∈ks,0≤c∧c<4)(hkl:ks.length≤4){its:List bf}(h: ∀e∈its,nW e)(h6:its.length≤6){y:bE}(hc:(iY ks).Cols=ks)
  (hF:F2 (fun c d=>er its (eL c)=some d∧0≤d) ks y.Cols):FB ks y (tZ its):=fun nx i r hr hrl=>by
 rw [dd (show¬((tZ its).Op==(4:Int))=true by show¬((5:Int)==4)=true;decide)]
 show d9 ([iY ks,y],0) y nx i r its ([]:List M)=_
 rw [Rq hr hrl i its [] h (by simp;omega),nF]
 refine Rx hr (fun v hv=>?_) hrl (by simp;omega) hks hkl hc (Cd hF fun c hcm d hd=>?_) i
 ·obtain⟨e,he,rfl⟩:=Bf.1 hv
  exact OP (h e he) hr hrl
 ·obtain⟨j,g1,g2⟩:=tW c its 0 h
  have hj:j=d:=by
   have:=g1.symm.trans hd.1
   exact mO this
  subst hj
  obtain⟨k,k1,k2,k3⟩:=g2 hd.2
  have hh:=hks c hcm
  rw [k1,qx,ii,CI]
  exact k3 r hh.1 hh.2
theorem If{ks:List Int}(hks: ∀c∈ks,0≤c∧c<4)(hkl:ks.length≤4){gks:List Int}(h: ∀k∈gks,0≤k∧k<4)(h3:gks.length≤3){y:bE}(hc:(iY ks).Cols=ks)
  (hF:F2 (fun c d=>f9 gks c=some d∧0≤d) ks y.Cols):FB ks y (sk gks):=fun nx i r hr hrl=>by
 rw [dy (show((sk gks).Op==(4:Int))=true by show((4:Int)==4)=true;decide)]
 show ea ([iY ks,y],0) y nx i r gks ([]:List M)=_
 rw [Rr hrl i gks [] h (by simp;omega),nF]
 refine Rx hr (fun v hv=>?_) hrl (by simp;omega) hks hkl hc (Cd hF fun c hcm d hd=>?_) i
 ·obtain⟨k,hk,rfl⟩:=Bf.1 hv
  have:=h k hk
  have hlt:k.toNat<r.length:=by omega
  unfold R6
  rw [pR hlt,Option.getD_some]
  exact hr _ (Db hlt)
 ·obtain⟨j,g1,_,g3,_⟩:=tU gks c
  have hj:j=d:=by
   have:=g1.symm.trans hd.1
   exact mO this
  subst hj
  obtain⟨k,k1,k2,k3⟩:=g3 hd.2
  rw [k1,ii,CI,k3]
  rfl
section
variable{rows:List (List Int)}{ks:List Int}
theorem UC(hrows: ∀x∈rows,x.length=4∧ ∀v∈x,r64 v)(hcat:G5 ⟨[kf ks]⟩=true)(hks: ∀c∈ks,0≤c∧c<4)(hkl:ks.length≤4){its:List bf}(hi: ∀e∈its,nW e)(h1:1≤its.length)(h6:its.length≤6){gks:List Int}(hg: ∀k∈gks,0≤k∧k<4)(hg1:1≤gks.length)(hg3:gks.length≤3):
  bW rows (kf ks) (sk gks) (tZ its) 2 0=some true:=by
 have z1:mP ((tZ its).Items.length:Int) (0:Int)=some (List.replicate its.length 0):=by
  show mP (its.length:Int) (0:Int)=_
  unfold mP
  rw [dy (by omega),Ap]
 have z2:mP ((sk gks).Keys.length:Int) (0:Int)=some (List.replicate gks.length 0):=by
  show mP (gks.length:Int) (0:Int)=_
  unfold mP
  rw [dy (by omega),Ap]
 unfold bW
 show((mP ((tZ its).Items.length:Int) (0:Int)).bind _)=_
 rw [z1,cq,dd (show¬((tZ its).Op==(4:Int))=true by show¬((5:Int)==4)=true;decide)]
 unfold gP
 rw [CL,E5 its.length 0 _ (by simp),qx its.length]
 have n4: ∀m:Nat,(4:Int)∉List.replicate m 2:=fun m hm=>by have:=List.eq_of_mem_replicate hm;omega
 rw [Ru hrows (Eh (at1:=fun c=>er its (eL c)) hcat hkl (.inl rfl) rfl rfl (H1 hi h1 h6) (Jl h1 h6) (n4 _) (fun KS=>by
  rw [show I3 (tZ its).Op=jP from rfl]
  unfold jP
  rw [cq]
  show((jR (iY ks) (iK _)).bind fun r=>some r)=_
  rw [IS]
  congr 1
  funext c
  unfold iK
  rw [cq,IS]
  rfl) (fun c=>by
   obtain⟨j,g1,_⟩:=tW c its 0 hi
   exact⟨j,g1⟩)) (fun y hc hF=>La hks hkl hi h6 hc hF)]
 unfold bW
 show((mP ((tZ its).Items.length:Int) (0:Int)).bind _)=_
 rw [z1,cq,dy (show((sk gks).Op==(4:Int))=true by show((4:Int)==4)=true;decide),z2,cq]
 unfold gP
 rw [CL,E5 gks.length 0 _ (by simp),qx gks.length]
 rw [Ru hrows (Eh (at1:=fun c=>f9 gks c) hcat hkl (.inr rfl) rfl rfl (GJ hg hg1 hg3) (Jl hg1 (by omega)) (n4 _) (fun KS=>by
  rw [show I3 (sk gks).Op=fT from rfl]
  unfold fT
  rw [cq]
  show((jR (iY ks) (jQ _)).bind fun r=>some r)=_
  rw [IS]
  congr 1
  funext c
  unfold jQ
  rw [cq,IS]
  rfl) (fun c=>by
   obtain⟨j,g1,_⟩:=tU gks c
   exact⟨j,g1⟩)) (fun y hc hF=>If hks hkl hg hg3 hc hF)]
 rfl
theorem UB(hrows: ∀x∈rows,x.length=4∧ ∀v∈x,r64 v)(hcat:G5 ⟨[kf ks]⟩=true)(hks: ∀c∈ks,0≤c∧c<4)(hkl:ks.length≤4): ∀(items:List Int) (i:Nat) (its:List bf) (gks:List Int),(∀x∈items,r64 x)→(∀e∈its,nW e)→its.length=i→i≤6→(∀k∈gks,0≤k∧k<4)→gks.length≤3→
  eO rows (kf ks) items i (tZ its) (sk gks)=some true:=by
 have fin: ∀(its:List bf) (gks:List Int),(∀e∈its,nW e)→its.length≤6→(∀k∈gks,0≤k∧k<4)→gks.length≤3→gQ rows (kf ks) (sk gks) (tZ its)=some true:=by
  intro its gks hi h6 hg h3
  unfold gQ
  show(if(((its.length:Int)==(0:Int))||((gks.length:Int)==(0:Int)))then _ else _)=_
  split
  ·rfl
  ·rename_i hne
   simp only [zJ,xn,not_or]at hne
   exact UC hrows hcat hks hkl hi (by omega) h6 hg (by omega) h3
 intro items
 induction items with
 |nil=>
  intro i its gks _ hi hl h6 hg h3
  exact fin its gks hi (by omega) hg h3
 |cons x tl ih=>
  intro i its gks hr hi hl h6 hg h3
  unfold eO
  split
  ·exact fin its gks hi (by omega) hg h3
  ·rename_i hne
   rw [xn]at hne
   have hne' :i≠6:=fun e=>hne (by omega)
   split
   ·rename_i hx
    rw [iP,ui,ui]at hx
    have hi' : ∀e∈its++[G3 x],nW e:=fun e he=>by
     rcases wK.1 he with he|he
     ·exact hi e he
     ·rw [uk.1 he];exact .inl ⟨x,hx,rfl⟩
    rw [QN,cq]
    show((kE its [G3 x]).bind _)=_
    rw [dM (by simp;omega),cq]
    show(if(decide ((gks.length:Int)<(3:Int)))then((kE gks [x]).bind _)else _)=_
    split
    ·rename_i hlt
     rw [ui]at hlt
     rw [dM (by simp;omega),cq]
     exact ih (i+1) (its++[G3 x]) (gks++[x]) (fun z hz=>hr z (kG _ hz)) hi' (by simp;omega) (by omega) (fun k hk=>by
      rcases wK.1 hk with hk|hk
      ·exact hg k hk
      ·rw [uk.1 hk];exact hx) (by simp;omega)
    ·exact ih (i+1) (its++[G3 x]) gks (fun z hz=>hr z (kG _ hz)) hi' (by simp;omega) (by omega) hg h3
   ·rw [OB,cq]
    show((kE its [Lh x]).bind _)=_
    rw [dM (by simp;omega),cq]
    exact ih (i+1) (its++[Lh x]) gks (fun z hz=>hr z (kG _ hz)) (fun e he=>by
     rcases wK.1 he with he|he
     ·exact hi e he
     ·rw [uk.1 he];exact .inr ⟨x,hr x (lV ..),rfl⟩) (by simp;omega) (by omega) hg h3
end
theorem BT{nx:Nat→bu→Option Bool}(i:Nat): ∀(keys:List Int) (ks:List Int),ks.length≤100→ ∃b:Bool,gy nx i keys (kf ks)=nx (i+1) (kf (ks++if b then [(i:Int)]else []))
 |[],ks,_=>⟨false,by simp;rfl⟩
 |x::tl,ks,h=>by
  unfold gy
  split
  ·refine⟨true,?_⟩
   show((kE ks [(i:Int)]).bind _)=_
   rw [dM (by simp;omega)]
   rfl
  ·exact BT i tl ks h
theorem xK(items keys:List Int)(rows:List (List Int))(hi: ∀x∈items,r64 x)(hr: ∀x∈rows,x.length=4∧ ∀v∈x,r64 v):kO items keys rows=some true:=by
 unfold kO
 rw [Ez,cq,dd (by simp)]
 have e1:jv items keys rows ([[97],[98],[99],[100]]) ({({(⟨[116],[],[]⟩:bu)with Columns:=([]:List bw)}:bu)with Keys:=([]:List Int)}:bu)=cg items keys rows 4 0 (kf []):=rfl
 rw [e1]
 unfold cg
 obtain⟨b0,g0⟩:=BT (nx:=cg items keys rows 3) 0 keys [] (by simp)
 rw [g0]
 unfold cg
 obtain⟨b1,g1⟩:=BT (nx:=cg items keys rows 2) (0+1) keys ([]++if b0 then [((0:Nat):Int)]else []) (by cases b0<;>simp)
 rw [g1]
 unfold cg
 obtain⟨b2,g2⟩:=BT (nx:=cg items keys rows 1) (0+1+1) keys (([]++if b0 then [((0:Nat):Int)]else [])++if b1 then [((0+1:Nat):Int)]else []) (by cases b0<;>cases b1<;>simp)
 rw [g2]
 unfold cg
 obtain⟨b3,g3⟩:=BT (nx:=cg items keys rows 0) (0+1+1+1) keys ((([]++if b0 then [((0:Nat):Int)]else [])++if b1 then [((0+1:Nat):Int)]else [])++if b2 then [((0+1+1:Nat):Int)]else []) (by cases b0<;>cases b1<;>cases b2<;>simp)
 rw [g3]
 unfold cg
 have ek:((([]++if b0 then [((0:Nat):Int)]else [])++if b1 then [((0+1:Nat):Int)]else [])++if b2 then [((0+1+1:Nat):Int)]else [])++(if b3 then [((0+1+1+1:Nat):Int)]else [])=ON b0 b1 b2 b3:=by
  cases b0<;>cases b1<;>cases b2<;>cases b3<;>rfl
 rw [ek]
 exact UB hr (Ol b0 b1 b2 b3) (Ji b0 b1 b2 b3).1 (Ji b0 b1 b2 b3).2 items 0 [] [] hi (fun e he=>by cases he) rfl (by omega) (fun k hk=>by cases hk) (by simp)
end Go.Proofs.YtmogpgcfognefaaGreatDoor

