/- cN of this claim: U2. -/
import Derived.Test.YtnmjbolollcokaaGreatDoorRaU1
import Derived.Test.YtnmjbolollcokaaGreatDoorRaQ2
set_option linter.all false
namespace Go.Proofs.YtnmjbolollcokaaGreatDoor
open Go

theorem t8(e:bA): ∃b,hJ e=some b∧(b=false→e.Nodes.length≤100):=by
 unfold hJ
 by_cases h:100<e.Nodes.length
 ·rw [cO (by simp;omega)]
  exact⟨true,rfl,by simp⟩
 ·rw [cQ (by simp;omega)]
  have key: ∀ns:List bT,∃b,gy ns=some b:=by
   intro ns
   induction ns with
   |nil=>exact⟨_,rfl⟩
   |cons n ns ih=>
    unfold gy
    split
    ·exact⟨_,rfl⟩
    ·exact ih
  obtain⟨b,hb⟩:=key e.Nodes
  exact⟨b,hb,fun _=>by omega⟩
theorem CC(nx:Option Bool): ∀l:List kF,(∃b,nx=some b)→ ∃b,j5 nx l=some b∧(b=false→nx=some false∧ ∀g∈l,g.Arg.Nodes.length≤100)
 |[],⟨b,h⟩=>⟨b,h,fun hb=>⟨by rw [h,hb],fun g hg=>by cases hg⟩⟩
 |g::tl,hn=>by
  unfold j5
  obtain⟨b,h1,h2⟩:=t8 g.Arg
  rw [h1,n9]
  cases b with
  |true=>exact⟨true,rfl,by simp⟩
  |false=>
   obtain⟨b',h3,h4⟩:=CC nx tl hn
   exact⟨b',h3,fun hb=>⟨(h4 hb).1,fun x hx=>by
    rcases fS.1 hx with rfl|hx
    ·exact h2 rfl
    ·exact(h4 hb).2 x hx⟩⟩
theorem CD(nx:Option Bool)(e:ai)(hn: ∃b,nx=some b): ∀l:List bA,∃b,j6 nx e l=some b∧(b=false→nx=some false∧(∀g∈e.Aggs,g.Arg.Nodes.length≤100)∧ ∀x∈l,x.Nodes.length≤100)
 |[]=>by
  obtain⟨b,h1,h2⟩:=CC nx e.Aggs hn
  exact⟨b,h1,fun hb=>⟨(h2 hb).1,(h2 hb).2,fun x hx=>by cases hx⟩⟩
 |x::tl=>by
  unfold j6
  obtain⟨b,h1,h2⟩:=t8 x
  rw [h1,n9]
  cases b with
  |true=>exact⟨true,rfl,by simp⟩
  |false=>
   obtain⟨b',h3,h4⟩:=CD nx e hn tl
   exact⟨b',h3,fun hb=>⟨(h4 hb).1,(h4 hb).2.1,fun y hy=>by
    rcases fS.1 hy with rfl|hy
    ·exact h2 rfl
    ·exact(h4 hb).2.2 y hy⟩⟩
theorem CE: ∀l:List ai,∃b,fB l=some b∧(b=false→ ∀n∈l,FQ n)
 |[]=>⟨false,rfl,fun _ n hn=>by cases hn⟩
 |n::tl=>by
  unfold fB
  obtain⟨b0,i1,i2⟩:=CE tl
  by_cases hc:(((((decide ((20:Int)<(n.Kinds.length:Int)))||(decide ((20:Int)<(n.Keys.length:Int))))||(decide ((20:Int)<(n.Order.length:Int))))||(decide ((20:Int)<(n.Items.length:Int))))||(decide ((20:Int)<(n.Aggs.length:Int))))=true
  ·rw [hc]
   exact⟨true,rfl,by simp⟩
  ·rw [rO]at hc
   rw [hc]
   simp only [Bool.or_eq_false_iff,F4]at hc
   obtain⟨b,h1,h2⟩:=t8 n.Cond
   rw [h1]
   cases b with
   |true=>exact⟨true,rfl,by simp⟩
   |false=>
    obtain⟨b',h3,h4⟩:=CD (fB tl) n ⟨b0,i1⟩ n.Items
    refine⟨b',h3,fun hb=>?_⟩
    obtain⟨g1,g2,g3⟩:=h4 hb
    rw [i1]at g1
    have e0:b0=false:=kI g1
    intro m hm
    rcases fS.1 hm with rfl|hm
    ·have:=h2 rfl
     exact⟨by omega,by omega,by omega,by omega,by omega,by omega,fun g hg=>by have:=g2 g hg;omega,fun e he=>by have:=g3 e he;omega⟩
    ·exact i2 e0 m hm
theorem Gj(l:List ai): ∃b,pq l=some b∧(b=false→l.length≤65∧ ∀n∈l,FQ n):=by
 unfold pq
 by_cases h:65<l.length
 ·rw [cO (by simp;omega)]
  exact⟨true,rfl,by simp⟩
 ·rw [cQ (by simp;omega)]
  obtain⟨b,h1,h2⟩:=CE l
  exact⟨b,h1,fun hb=>⟨by omega,h2 hb⟩⟩
theorem uH: ∀l:List cz,∃b,gx l=some b∧(b=false→ ∀f∈l,f.Nodes.length≤65)
 |[]=>⟨false,rfl,fun _ n hn=>by cases hn⟩
 |f::tl=>by
  unfold gx
  by_cases hc:(decide ((40:Int)<(f.Cols.length:Int)))=true
  ·rw [hc]
   exact⟨true,rfl,by simp⟩
  ·rw [rO]at hc
   rw [hc]
   obtain⟨b,h1,h2⟩:=Gj f.Nodes
   rw [h1]
   cases b with
   |true=>exact⟨true,rfl,by simp⟩
   |false=>
    obtain⟨b',h3,h4⟩:=uH tl
    exact⟨b',h3,fun hb x hx=>by
     rcases fS.1 hx with rfl|hx
     ·exact(h2 rfl).1
     ·exact h4 hb x hx⟩
def pM(p:bI):Prop:=p.Frags.length≤40∧ ∀f∈p.Frags,f.Nodes.length≤65
theorem Ao(p:bI): ∃b,kY p=some b∧(b=false→pM p):=by
 unfold kY
 by_cases h:40<p.Frags.length
 ·rw [cO (by simp;omega)]
  exact⟨true,rfl,by simp⟩
 ·rw [cQ (by simp;omega)]
  obtain⟨b,h1,h2⟩:=uH p.Frags
  exact⟨b,h1,fun hb=>⟨by omega,h2 hb⟩⟩
theorem yD:qF=some true:=by kernel_rfl
def pr(n:Nat):List Int:=(List.range n).map fun i:Nat=>(i:Int)
def kS(f:cz)(n:Nat):List Int:=if f.At=2 then [0]else(pr n).map fun i=>i+1
theorem re(n:Nat):pr (n+1)=pr n++[(n:Int)]:=by unfold pr;rw [List.range_succ,Dd];rfl
theorem qG(n:Nat):(pr n).length=n:=by simp [pr]
theorem E5{n:Nat}{x:Int}:x∈pr n↔0≤x∧x<(n:Int):=by
 unfold pr
 rw [zG]
 constructor
 ·rintro⟨i,hi,rfl⟩
  rw [xh]at hi
  omega
 ·intro h
  exact⟨x.toNat,xh.2 (by omega),by omega⟩
theorem Ct(n:Nat)(hn:n≤100000): ∀(k j fu:Nat),j+k=n→k<fu→jE (n:Int) fu (pr j) (j:Int)=some (pr n)
 |k,j,0,_,h=>by omega
 |0,j,fu+1,hj,_=>by
  unfold jE
  rw [cQ (by simp;omega),show j=n by omega]
 |k+1,j,fu+1,hj,hf=>by
  unfold jE
  rw [cO (by simp;omega),zt (by rw [qG];simp;omega),n9,←re,xl (by omega) (by omega)]
  exact Ct n hn k (j+1) fu (by omega) (by omega)
theorem Gb(n:Nat)(hn:n≤100000):oG (n:Int)=some (pr n):=Ct n hn n 0 kp (by omega) (qH (by omega))
theorem DQ(n:Nat):(pr (n+1)).drop 1=(pr n).map fun i=>i+1:=by
 induction n with
 |zero=>rfl
 |succ n ih=>
  rw [re (n+1),Ew (by rw [qG];omega),ih,re n,Dd]
  rfl
theorem vN(f:cz){n:Nat}(hn:n≤8):lw f (n:Int)=some (kS f n):=by
 unfold lw kS
 by_cases h:f.At=2
 ·rw [cO (by simpa using h),cO h]
 ·rw [cQ (by simpa using h),cQ h,xl (by omega) (by omega)]
  have e:((n:Int)+1)=((n+1:Nat):Int):=by omega
  rw [e,Gb (n+1) (by omega),n9,Dz (i:=1) (j:=((pr (n+1)).length:Int)) 1 (pr (n+1)).length rfl rfl (by rw [qG];omega) (fG _),n9,De,DQ]
theorem sM(n:Nat)(hn:n≤8): ∀(k j fu:Nat),j+k=n→k<fu→gb (n:Int) fu ((pr j).map fun i=>i+1) ((j:Int)+1)=some ((pr n).map fun i=>i+1)
 |k,j,0,_,h=>by omega
 |0,j,fu+1,hj,_=>by
  unfold gb
  rw [cQ (by simp;omega),show j=n by omega]
 |k+1,j,fu+1,hj,hf=>by
  unfold gb
  rw [cO (by simp;omega),zt (by simp [qG];omega),n9,xl (by omega) (by omega)]
  have e:((pr j).map fun i=>i+1)++[(j:Int)+1]=(pr (j+1)).map fun i=>i+1:=by rw [re,Dd];rfl
  rw [e]
  have:=sM n hn k (j+1) fu (by omega) (by omega)
  have e2:((j+1:Nat):Int)+1=(j:Int)+1+1:=by omega
  rw [e2]at this
  exact this
theorem pc{p:bI}{k:Int}{f:cz}(hf:eh p.Frags k=some f){n:Nat}(hn:n≤8):ik p k (n:Int)=some (kS f n):=by
 unfold ik kS
 rw [hf,n9]
 by_cases h:f.At=2
 ·rw [cO (by simpa using h),cO h]
 ·rw [cQ (by simpa using h),cQ h]
  exact sM n hn n 0 kp (by omega) (qH (by omega))
def Cz(p:bI)(k:Int):Int:=match CA k p.Frags 0 with|[]=> -1|x::_=>x.1
theorem xB(p:bI)(k:Int):l0 p k=some (Cz p k):=by
 unfold l0 Cz
 rw [Ec,n9]
 cases CA k p.Frags 0 with
 |nil=>rfl
 |cons x tl=>rfl
theorem ER(p:bI)(k:Int):Cz p k= -1∨ ∃(a:Nat) (f:cz),Cz p k=(a:Int)∧p.Frags[a]? =some f:=by
 unfold Cz
 cases h:CA k p.Frags 0 with
 |nil=>exact .inl rfl
 |cons x tl=>
  obtain⟨a,f,j,n,g0,g1,g2,g3⟩:=CK (x:=x) (from1:=k) (fs:=p.Frags) (i:=0) (by rw [h];exact oQ ..)
  refine .inr ⟨a,f,?_,g0⟩
  show x.1=_
  rw [g2]
  show((0+a:Nat):Int)=_
  rw [rl]
theorem sK(p:bI)(frag:Int)(nx:Int→Option Int){i:Nat}{f:cz}(hf:p.Frags[i]? =some f)(hi:i≤1000)(hl:f.Nodes.length≤1000): ∀(tl:List ai) (k fu:Nat),f.Nodes.drop k=tl→tl.length<fu→
  ga p frag nx (i:Int) fu (k:Int)=match ES frag i tl k with|[]=>nx ((i+1:Nat):Int)|x::_=>some x.1
 |tl,k,0,_,h=>by omega
 |[],k,fu+1,hd,_=>by
  unfold ga ES
  have hk:f.Nodes.length≤k:=Bf.1 hd
  rw [kZ,hf,n9,cQ (by simp;omega),xl (by omega) (by omega)]
  rfl
 |n::tl,k,fu+1,hd,hfu=>by
  rw [tE]at hfu
  have hk:k<f.Nodes.length:=by
   rcases jd k f.Nodes.length with h|h
   ·exact h
   ·rw [Bg h]at hd;cases hd
  rw [yx hk]at hd
  injection hd with hn hd
  unfold ga ES
  rw [kZ,hf,n9,cO (by simp;omega),kZ,oV hk,n9,hn]
  by_cases h:((n.Op==(9:Int))&&(n.Table==frag))=true
  ·rw [cO h,cO h]
  ·rw [cQ h,cQ h,xl (by omega) (by omega)]
   exact sK p frag nx hf hi hl tl (k+1) fu hd (by omega)
theorem sL{p:bI}(hs:pM p)(frag:Int): ∀(tl:List cz) (i fu:Nat),p.Frags.drop i=tl→tl.length<fu→
  fa p frag fu (i:Int)=some (match CA frag tl i with|[]=> -1|x::_=>x.1)
 |tl,i,0,_,h=>by omega
 |[],i,fu+1,hd,_=>by
  unfold fa CA
  have hk:p.Frags.length≤i:=Bf.1 hd
  rw [cQ (by simp;omega)]
 |f::tl,i,fu+1,hd,hfu=>by
  rw [tE]at hfu
  have hk:i<p.Frags.length:=by
   rcases jd i p.Frags.length with h|h
   ·exact h
   ·rw [Bg h]at hd;cases hd
  rw [yx hk]at hd
  injection hd with hn hd
  have hf:p.Frags[i]? =some f:=by rw [oV hk,hn]
  have hl:=hs.2 f (pX hf)
  have h40:=hs.1
  unfold fa CA
  rw [cO (by simp;omega),←Int.ofNat_zero,sK p frag _ hf (by omega) (by omega) f.Nodes 0 kp (by simp) (qH (by omega)),sL hs frag tl (i+1) fu hd (by omega)]
  cases ES frag i f.Nodes 0 with
  |nil=>rfl
  |cons x t=>rfl
theorem mJ{p:bI}(hs:pM p)(frag:Int):mK p frag=some (Cz p frag):=sL hs frag p.Frags 0 kp (by simp) (qH (by have:=hs.1;omega))
def nM(k:Int)(r:Int)(aa bs:List Int):List (aN×Int):=aa.flatMap fun a=>bs.map fun b=>((⟨k,a,b⟩:aN),r)
def EJ(p:bI)(n k:Nat)(f:cz):List (aN×Int):=if Cz p (k:Int)<0 then []else nM (k:Int) (Cz p (k:Int)) (kS f n) (kS ((p.Frags[(Cz p (k:Int)).toNat]?).getD f) n)
def o3(p:bI)(n:Nat):List cz→Nat→List (aN×Int)
 |[],_=>[]
 |f::tl,k=>EJ p n k f++o3 p n tl (k+1)
theorem FO{Sg:Type}(yld:(aN×Int)→Sg→Option (Bool×Sg))(i:Nat)(r:Int)(nx1:Sg→Option Sg)(a:Int): ∀(bs:List Int) (s:Sg),j4 yld i r nx1 a bs s=p5 yld (bs.map fun b=>((⟨(i:Int),a,b⟩:aN),r)) s nx1
 |[],s=>rfl
 |b::bs,s=>by
  unfold j4
  show _=(yld _ s).bind _
  congr 1
  funext q
  rw [FO yld i r nx1 a bs]
theorem FP{Sg:Type}{p:bI}{n:Nat}(hn:n≤8)(yld:(aN×Int)→Sg→Option (Bool×Sg))(nx:Nat→Sg→Option Sg)(i:Nat){r:Int}{g:cz}(hg:eh p.Frags r=some g): ∀(aa:List Int) (s:Sg),iM p (n:Int) yld nx i r aa s=p5 yld (nM (i:Int) r aa (kS g n)) s (nx (i+1))
 |[],s=>rfl
 |a::aa,s=>by
  unfold iM nM
  rw [hg,n9,vN g hn,n9,FO,List.flatMap_cons,nF]
  congr 1
  funext s'
  exact FP hn yld nx i hg aa s'
theorem Ch{Sg:Type}{p:bI}{n:Nat}(hn:n≤8)(yld:(aN×Int)→Sg→Option (Bool×Sg)): ∀(fs:List cz) (i:Nat) (s:Sg),eI p (n:Int) yld fs i s=p5 yld (o3 p n fs i) s some
 |[],i,s=>rfl
 |f::tl,i,s=>by
  unfold eI o3 EJ
  rw [xB,n9]
  by_cases h:Cz p (i:Int)<0
  ·rw [cO (by simpa using h),cO h,u3]
   exact Ch hn yld tl (i+1) s
  ·rw [cQ (by simpa using h),cQ h,vN f hn,n9,nF]
   rcases ER p (i:Int)with h1|⟨a,g,h1,h2⟩
   ·omega
   ·rw [h1,zL,h2,Option.getD_some,FP hn yld _ i (g:=g) (by rw [kZ,h2])]
    congr 1
    funext s'
    exact Ch hn yld tl (i+1) s'
theorem JH(p:bI){n:Nat}(hn:n≤8):sN p (n:Int)=some (fun _ yld s=>p5 yld (o3 p n p.Frags 0) s some):=by
 unfold sN
 congr 1
 funext Sg yld s
 exact Ch hn yld p.Frags 0 s
theorem qY(f:cz){n:Nat}(hn:n≤8):(kS f n).length≤8:=by
 unfold kS
 split
 ·simp
 ·simp [qG];omega
theorem tZ(k r:Int)(bs:List Int): ∀aa:List Int,(nM k r aa bs).length=aa.length*bs.length
 |[]=>by simp [nM]
 |a::aa=>by
  have:=tZ k r bs aa
  unfold nM at this ⊢
  rw [List.flatMap_cons,kJ,this,List.length_map,tE,oT]
  omega
theorem zY(p:bI){n:Nat}(hn:n≤8): ∀(fs:List cz) (i:Nat),(o3 p n fs i).length≤64*fs.length
 |[],_=>fG _
 |f::tl,i=>by
  unfold o3 EJ
  have h1:=zY p hn tl (i+1)
  rw [kJ,tE]
  split
  ·simp;omega
  ·rw [tZ]
   have h2:=qY f hn
   have h3:=qY ((p.Frags[(Cz p (i:Int)).toNat]?).getD f) hn
   have:=Nat.mul_le_mul h2 h3
   omega
theorem vK{holds:aN→Int→Option Bool}{hb:aN×Int→Bool}(hh: ∀x,holds x.1 x.2=some (hb x)): ∀(L:List (aN×Int)) (s:List aN),s.length+L.length≤100000→p5 (qR (fun x s=>gp holds x s)) L s some=some (s++(L.filter hb).map Prod.fst)
 |[],s,_=>by simp [p5]
 |x::L,s,h=>by
  rw [tE]at h
  have e:qR (fun x s=>gp holds x s) x s=some (true,if hb x=true then s++[x.1]else s):=by
   unfold qR gp
   show Option.map _ ((holds x.1 x.2).bind _)=_
   rw [hh,n9]
   cases hb x with
   |true=>rw [cO rfl,cO rfl,zt (by simp;omega)];rfl
   |false=>rw [cQ (by simp),cQ (by simp)];rfl
  unfold p5
  rw [e,n9,cQ (by simp),List.filter_cons]
  cases hb x with
  |true=>
   show p5 (qR (fun x s=>gp holds x s)) L (s++[x.1]) some=_
   rw [vK hh L _ (by simp;omega)]
   simp
  |false=>
   show p5 (qR (fun x s=>gp holds x s)) L s some=_
   rw [vK hh L s (by omega)]
   simp
theorem yH{p:bI}(hs:pM p){n:Nat}(hn:n≤8){holds:aN→Int→Option Bool}{hb:aN×Int→Bool}(hh: ∀x,holds x.1 x.2=some (hb x)):mP p (n:Int) holds=some (((o3 p n p.Frags 0).filter hb).map Prod.fst):=by
 have hl:=zY p hn p.Frags 0
 have h40:=hs.1
 unfold mP
 rw [JH p hn,n9]
 show(p5 (qR (fun x s=>gp holds x s)) (o3 p n p.Frags 0) ([]:List aN) some).bind _=_
 rw [vK hh _ _ (by simp;omega)]
 rfl
def Au(s:aN)(to1:Int)(x:aN×Int):Bool:=((decide (s.Frag<0)||(x.1.Frag==s.Frag))&&(decide (to1<0)||(x.2==to1)))&&((decide (s.From<0)||(x.1.From==s.From))&&(decide (s.To<0)||(x.1.To==s.To)))
theorem tW(s:aN)(k r:Int)(nx1:List aN→Option (List aN))(a:Int)(hk:(decide (s.Frag<0)||(k==s.Frag))=true){to1:Int}(ht:(decide (to1<0)||(r==to1))=true): ∀(bs:List Int) (out:List aN),out.length+bs.length≤100000→
  ew s k nx1 a bs out=nx1 (out++((bs.map fun b=>((⟨k,a,b⟩:aN),r)).filter (Au s to1)).map Prod.fst)
 |[],out,_=>by unfold ew;simp
 |b::bs,out,h=>by
  rw [tE]at h
  unfold ew
  rw [xg,List.filter_cons]
  have e:Au s to1 ((⟨k,a,b⟩:aN),r)=(((decide (s.From<(0:Int)))||(a==s.From))&&((decide (s.To<(0:Int)))||(b==s.To))):=by
   show(((decide (s.Frag<0)||(k==s.Frag))&&(decide (to1<0)||(r==to1)))&&_)=_
   rw [hk,ht];rfl
  rw [e]
  split
  ·rw [zt (by simp;omega),n9,tW s k r nx1 a hk ht bs _ (by simp;omega)]
   simp
  ·exact tW s k r nx1 a hk ht bs out (by omega)
theorem xA(s:aN)(k r:Int)(nx:List aN→Int→Option (List aN))(bs:List Int)(hk:(decide (s.Frag<0)||(k==s.Frag))=true){to1:Int}(ht:(decide (to1<0)||(r==to1))=true): ∀(aa:List Int) (out:List aN),out.length+aa.length*bs.length≤100000→
  ez s nx k bs aa out=fC nx k (out++((nM k r aa bs).filter (Au s to1)).map Prod.fst)
 |[],out,_=>by unfold ez;simp [nM]
 |a::aa,out,h=>by
  rw [tE,oT]at h
  unfold ez
  rw [tW s k r _ a hk ht bs out (by omega)]
  have hf:(((bs.map fun b=>((⟨k,a,b⟩:aN),r)).filter (Au s to1)).map Prod.fst).length≤bs.length:=by
   rw [List.length_map]
   exact ic (List.length_filter_le _ _) (by simp)
  rw [xA s k r nx bs hk ht aa _ (by rw [kJ];omega)]
  unfold nM
  rw [List.flatMap_cons,List.filter_append,Dd,yo]
theorem BJ{k r:Int}{s:aN}{to1:Int}(h: ¬((decide (s.Frag<0)||(k==s.Frag))=true∧(decide (to1<0)||(r==to1))=true))(aa bs:List Int):(nM k r aa bs).filter (Au s to1)=[]:=by
 rw [Cr]
 intro x hx hok
 unfold nM at hx
 rw [List.mem_flatMap]at hx
 obtain⟨a,_,hx⟩:=hx
 rw [zG]at hx
 obtain⟨b,_,rfl⟩:=hx
 unfold Au at hok
 rw [jz,jz]at hok
 exact h hok.1
theorem q5{p:bI}(hs:pM p){n:Nat}(hn:n≤8)(s:aN)(to1:Int): ∀(tl:List cz) (i fu:Nat) (out:List aN),p.Frags.drop i=tl→tl.length<fu→out.length+64*tl.length≤100000→
  cS p (n:Int) s to1 fu out (i:Int)=some (out++((o3 p n tl i).filter (Au s to1)).map Prod.fst)
 |tl,i,0,_,_,h,_=>by omega
 |[],i,fu+1,out,hd,_,_=>by
  unfold cS o3
  have hk:p.Frags.length≤i:=Bf.1 hd
  rw [cQ (by simp;omega)]
  simp
 |f::tl,i,fu+1,out,hd,hfu,hl=>by
  rw [tE]at hfu hl
  have hk:i<p.Frags.length:=by
   rcases jd i p.Frags.length with h|h
   ·exact h
   ·rw [Bg h]at hd;cases hd
  rw [yx hk]at hd
  injection hd with hn' hd
  have hf:p.Frags[i]? =some f:=by rw [oV hk,hn']
  have h40:=hs.1
  unfold cS o3 EJ
  rw [cO (by simp;omega),mJ hs,n9]
  have hk1: ∀o:List aN,fC (cS p (n:Int) s to1 fu) (i:Int) o=cS p (n:Int) s to1 fu o ((i+1:Nat):Int):=fun o=>by
   unfold fC
   rw [xl (by omega) (by omega)]
   rfl
  by_cases h:Cz p (i:Int)<0
  ·rw [cO (by simp [h]),cO h,hk1,u3]
   exact q5 hs hn s to1 tl (i+1) fu out hd (by omega) (by omega)
  ·rw [cQ h]
   rcases ER p (i:Int)with h1|⟨a,g,h1,h2⟩
   ·omega
   ·rw [h1,zL,h2,Option.getD_some,List.filter_append,Dd]
    by_cases hc:(decide (s.Frag<0)||((i:Int)==s.Frag))=true∧(decide (to1<0)||((a:Int)==to1))=true
    ·obtain⟨c1,c2⟩:=hc
     have hcond:(((decide ((a:Int)<(0:Int)))||((decide ((0:Int)≤s.Frag))&&((i:Int) !=s.Frag)))||((decide ((0:Int)≤to1))&&((a:Int) !=to1)))=false:=by
      simp only [vB,zM,beq_iff_eq]at c1 c2
      simp only [Bool.or_eq_false_iff,Bool.and_eq_false_iff,F4,bne_eq_false_iff_eq]
      omega
     rw [hcond,cQ (by simp),pc (f:=f) (by rw [kZ,hf]) hn,n9,pc (f:=g) (by rw [kZ,h2]) hn,n9]
     have h2l:=qY f hn
     have h3l:=qY g hn
     have hm:=Nat.mul_le_mul h2l h3l
     rw [xA s (i:Int) (a:Int) _ _ c1 c2 _ _ (by omega),hk1]
     have hf' :(((nM (i:Int) (a:Int) (kS f n) (kS g n)).filter (Au s to1)).map Prod.fst).length≤64:=by
      rw [List.length_map]
      refine ic (List.length_filter_le _ _) ?_
      rw [tZ]
      omega
     rw [q5 hs hn s to1 tl (i+1) fu _ hd (by omega) (by rw [kJ];omega),yo]
    ·have hcond:(((decide ((a:Int)<(0:Int)))||((decide ((0:Int)≤s.Frag))&&((i:Int) !=s.Frag)))||((decide ((0:Int)≤to1))&&((a:Int) !=to1)))=true:=by
      simp only [vB,zM,beq_iff_eq]at hc
      simp only [vB,jz,zM,bne_iff_ne,ne_eq]
      omega
     rw [hcond,cO rfl,hk1,BJ hc,List.map_nil,u3]
     exact q5 hs hn s to1 tl (i+1) fu out hd (by omega) (by omega)
theorem q6{p:bI}(hs:pM p){n:Nat}(hn:n≤8)(s:aN)(to1:Int):iJ p (n:Int) s to1=some (((o3 p n p.Frags 0).filter (Au s to1)).map Prod.fst):=by
 have:=q5 hs hn s to1 p.Frags 0 kp [] (by simp) (qH (by have:=hs.1;omega)) (by have:=hs.1;simp;omega)
 rw [u3]at this
 exact this
end Go.Proofs.YtnmjbolollcokaaGreatDoor

