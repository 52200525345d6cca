/- cP of this claim: K9, J15, J16, J17. -/
import Derived.Test.YtfhhakidodmdfaaGreatDoorJgQ2
import Derived.Test.YtfhhakidodmdfaaGreatDoorJgQ4
set_option linter.all false
namespace Go.Proofs.YtfhhakidodmdfaaGreatDoor
open Go



variable{b:dx}{ks:Nat→List Int}{n:aj}
theorem EF(b:dx)(ks:Nat→List Int): ∀(p q:List aj) (rows:List (List cu)),gu b ks (p++q) rows=if(gu b ks p rows).2≠0 then([],(gu b ks p rows).2)else gu b ks q (gu b ks p rows).1
 |[],q,rows=>by
  have e:gu b ks [] rows=(rows,0):=rfl
  rw [e,aL (by simp)]
  rfl
 |n::t,q,rows=>by
  rw [vO]
  by_cases h:(iw n b (qB rows n.A) (qB rows n.B) (BU ks n.B)).2≠0
  ·have e1: ∀s:List aj,gu b ks (n::s) rows=([],(iw n b (qB rows n.A) (qB rows n.B) (BU ks n.B)).2):=fun s=>by conv=>lhs;unfold gu;rw [aY h]
   rw [e1,e1,aY h]
  ·have e1: ∀s:List aj,gu b ks (n::s) rows=gu b ks s (rows++[(iw n b (qB rows n.A) (qB rows n.B) (BU ks n.B)).1]):=fun s=>by conv=>lhs;unfold gu;rw [aL h]
   rw [e1,e1,EF b ks t q]
theorem N1(b:dx)(ks ks' :Nat→List Int): ∀(t:List aj) (rows:List (List cu)),(∀n∈t,BU ks n.B=BU ks' n.B)→gu b ks t rows=gu b ks' t rows
 |[],_,_=>rfl
 |n::t,rows,h=>by
  unfold gu
  rw [h n (kO ..)]
  split
  ·rfl
  ·exact N1 b ks ks' t _ fun m hm=>h m (kN _ hm)
theorem SV{pre rows:List (List cu)}{d:Nat}(hp:pre.length=d)(hd:d≤1000){x:Int}(hx:x≤1000):qB (pre++rows) (zq (d:Int) x)=qB rows x:=by
 unfold zq
 by_cases h:0≤x
 ·rw [aY h,pF (by omega) (by omega)]
  unfold qB
  rw [aL (by omega),aL (by omega),si (by omega)]
  congr 2
  omega
 ·rw [aL h]
  unfold qB
  rw [aY (by omega),aY (by omega)]
theorem Sz(d:Int)(n:aj)(b:dx)(x y:List cu)(w:Nat):iw (uh d n) b x y w=iw n b x y w:=rfl
theorem SA(p q:Int)(n:aj)(b:dx)(x y:List cu)(w:Nat):iw (Xh p q n) b x y w=iw n b x y w:=rfl
theorem G0(b:dx)(ks ks' :Nat→List Int){d:Nat}(hd:d≤1000)(pre:List (List cu))(hp:pre.length=d): ∀(t:List aj) (rows:List (List cu)),(∀n∈t,n.A≤1000∧n.B≤1000∧BU ks' (zq (d:Int) n.B)=BU ks n.B)→gu b ks' (t.map (uh (d:Int))) (pre++rows)=if(gu b ks t rows).2≠0 then([],(gu b ks t rows).2)else(pre++(gu b ks t rows).1,0)
 |[],rows,_=>by
  have e:gu b ks [] rows=(rows,0):=rfl
  rw [e,aL (by simp)]
  rfl
 |n::t,rows,h=>by
  obtain⟨h1,h2,h3⟩:=h n (kO ..)
  have ht:=fun m hm=>h m (kN n hm)
  have eA:(uh (d:Int) n).A=zq (d:Int) n.A:=rfl
  have eB:(uh (d:Int) n).B=zq (d:Int) n.B:=rfl
  have el:gu b ks' ((n::t).map (uh (d:Int))) (pre++rows)=if(iw n b (qB rows n.A) (qB rows n.B) (BU ks n.B)).2≠0 then([],(iw n b (qB rows n.A) (qB rows n.B) (BU ks n.B)).2)else gu b ks' (t.map (uh (d:Int))) (pre++(rows++[(iw n b (qB rows n.A) (qB rows n.B) (BU ks n.B)).1])):=by
   rw [AB]
   conv=>lhs;unfold gu
   rw [eA,eB,SV hp hd h1,SV hp hd h2,h3,Sz,jG]
  have er:gu b ks (n::t) rows=if(iw n b (qB rows n.A) (qB rows n.B) (BU ks n.B)).2≠0 then([],(iw n b (qB rows n.A) (qB rows n.B) (BU ks n.B)).2)else gu b ks t (rows++[(iw n b (qB rows n.A) (qB rows n.B) (BU ks n.B)).1]):=by
   conv=>lhs;unfold gu
  rw [el,er]
  by_cases hc:(iw n b (qB rows n.A) (qB rows n.B) (BU ks n.B)).2≠0
  ·rw [aY hc,aY hc,aY hc]
  ·rw [aL hc,aL hc]
   exact G0 b ks ks' hd pre hp t _ ht
theorem qC.sh(h:qC n)(d:Int):qC (uh d n):=⟨h.small.sh d,h.cond,h.items,h.args⟩
theorem qC.at(h:qC n)(x y:Int):qC (Xh x y n):=⟨h.small.at x y,h.cond,h.items,h.args⟩
variable{l:bc}{sz:Nat→Nat}
theorem C2(T:wQ l b sz ks): ∀n∈l.Nodes,(n.A= -1∨0≤n.A∧n.A<(l.Nodes.length:Int))∧(n.B= -1∨0≤n.B∧n.B<(l.Nodes.length:Int)):=by
 intro n hn
 obtain⟨j,hj,e⟩:=List.mem_iff_getElem.1 hn
 obtain⟨m,F⟩:=T.known.all j hj
 have:m=n:=by
  have:=F.node
  rw [bW,oO hj,e]at this
  injection this with this
  exact this.symm
 subst this
 obtain⟨pA,pB⟩:=n7 F
 omega
theorem Rb(T:wQ l b sz ks)(h0:(ld l b ks).2=0):(gu b ks l.Nodes []).2=0∧(gu b ks l.Nodes []).1.length=l.Nodes.length∧xQ (gu b ks l.Nodes []).1=(ld l b ks).1:=by
 obtain⟨h1,h2⟩:=EE T l.Nodes 0 [] rfl (lF _) (Yg ks)
 unfold ld Gs at h0 ⊢
 by_cases h:(gu b ks l.Nodes []).2=0
 ·refine⟨h,(h1 h).len,?_⟩
  rw [aL (by simp [h])]
 ·rw [aY h]at h0
  exact absurd h0 h
theorem Lp{rows:List (List cu)}(pre:List (List cu))(h:1≤rows.length){x:Int}(hx:x=(pre.length:Int)+(rows.length:Int)-1)(post:List (List cu)):qB (pre++rows++post) x=xQ rows:=by
 unfold qB xQ
 rw [aL (by omega),xi (by simp only [iI];omega),si (by omega)]
 congr 2
 omega
theorem TO(b:dx)(ks:Nat→List Int)(m:aj)(rows:List (List cu))(q:List cu×Int)(hq:iw m b (qB rows m.A) (qB rows m.B) (BU ks m.B)=q):gu b ks [m] rows=if q.2≠0 then([],q.2)else(rows++[q.1],0):=by
 unfold gu
 rw [hq]
 rfl
theorem VX(rows:List (List cu))(q:List cu×Int)(h:q.2≠0→q.1=[]):Gs (if q.2≠0 then([],q.2)else(rows++[q.1],0))=q:=by
 unfold Gs
 by_cases hc:q.2=0
 ·rw [aL (c:=q.2≠0) (by simp [hc])]
  simp only [oU,GD,d7]
  unfold xQ
  have:(rows++[q.1])[(rows++[q.1]).length-1]? =some q.1:=by simp
  rw [this,←hc];rfl
 ·rw [aY (c:=q.2≠0) hc,aY hc]
  have:=h hc
  rw [←this]
theorem Qo{x y:List cu}{w:Nat}(h:(iw n b x y w).2≠0):(iw n b x y w).1=[]:=by
 unfold iw Fp at h ⊢
 split
 ·rfl
 ·split
  ·rfl
  ·rename_i a1 a2;rw [aL a1,aL a2]at h;exact absurd rfl h
theorem GN(T:wQ l b sz ks)(hb:EL b)(hf:C9 l b=true)(hn:qC n)(h1:n.Op≠1)(hr:iP (d2 n l l)=true)(h0:(ld l b ks).2=0):hJ (d2 n l l) b=some (iw n b (ld l b ks).1 (ld l b ks).1 (ks (l.Nodes.length-1)).length)∧ ∃sz' ks',wQ (d2 n l l) b sz' ks' :=by
 have hN: ∀m∈(d2 n l l).Nodes,qC m:=by
  intro m hm
  unfold d2 at hm
  rcases vM.1 hm with q|q
  ·rcases vM.1 q with q|q
   ·exact T.nodes m q
   ·obtain⟨m',hm',e⟩:=ui.1 q
    rw [←e]
    exact(T.nodes m' hm').sh _
  ·rw [zN.1 q];exact hn.at _ _
 have hfit:C9 (d2 n l l) b=true:=by
  unfold C9 d2
  rw [D1,D1]
  have hl:l.Nodes.all (IM b)=true:=hf
  have hm:(l.Nodes.map (uh (l.Nodes.length:Int))).all (IM b)=true:=by
   rw [List.all_map]
   exact hl
  rw [hl,hm]
  have h1' :((Xh ((l.Nodes.length:Int)-1) ((l.Nodes.length:Int)+(l.Nodes.length:Int)-1) n).Op==1)=false:=by show(n.Op==1)=false;simpa using h1
  simp only [zM,List.all_nil,wH,uM]
  unfold IM
  rw [h1'];rfl
 obtain⟨sz',ks',T'⟩:=H0 hN hb hr hfit
 obtain⟨g1,g2,g3⟩:=Rb T h0
 have hle:=T.known.le
 have hle' :=T'.known.le
 have hpos:=T.known.pos
 have hdl:=YY n l l
 have hu:=TC (l:=l) (d:=d2 n l l) (e:=0) (m:=l.Nodes.length) T.known.all T'.known.all (dy _) (by omega) (by omega) (by omega) (fun j hj m hm=>by
  obtain⟨m',F⟩:=T.known.all j hj
  have e:m=m' :=by have:=F.node;rw [hm]at this;injection this
  subst e
  rw [uc,Hb T.known F hj,acC hj]
  exact hm)
 have hu2:=TC (l:=l) (d:=d2 n l l) (e:=l.Nodes.length) (m:=l.Nodes.length) T.known.all T'.known.all (dy _) (by omega) (by omega) (by omega) (fun j hj m hm=>acB hj hm)
 have hks: ∀j,j<l.Nodes.length→ks' j=ks j:=fun j hj=>by have:=(hu j hj).2;rwa [uc]at this
 have hks2: ∀j,j<l.Nodes.length→ks' (l.Nodes.length+j)=ks j:=fun j hj=>(hu2 j hj).2
 have hrun:gu b ks' l.Nodes []=gu b ks l.Nodes []:=N1 b ks' ks _ _ fun m hm=>by
  obtain⟨_,pB⟩:=C2 T m hm
  unfold BU
  rcases pB with q|q
  ·rw [aY (by omega),aY (by omega)]
  ·rw [aL (by omega),aL (by omega),hks _ (by omega)]
 have hrun2:=G0 b ks ks' (d:=l.Nodes.length) (by omega) (gu b ks l.Nodes []).1 g2 l.Nodes [] (fun m hm=>by
  obtain⟨pA,pB⟩:=C2 T m hm
  refine⟨by omega,by omega,?_⟩
  rcases pB with q|q
  ·have e:zq (l.Nodes.length:Int) m.B=m.B:=by unfold zq;rw [aL (by omega)]
   rw [e]
   unfold BU
   rw [aY (by omega),aY (by omega)]
  ·have e:zq (l.Nodes.length:Int) m.B=m.B+(l.Nodes.length:Int):=by unfold zq;rw [aY (by omega),pF (by omega) (by omega)]
   rw [e]
   unfold BU
   rw [aL (by omega),aL (by omega)]
   have:=hks2 m.B.toNat (by omega)
   rw [←this]
   congr 2
   omega)
 rw [aL (by simp [g1]),rn]at hrun2
 refine⟨?_,sz',ks',T'⟩
 rw [q5 T' hfit]
 congr 1
 have hall:gu b ks' (d2 n l l).Nodes []=if(iw n b (ld l b ks).1 (ld l b ks).1 (ks (l.Nodes.length-1)).length).2≠0 then([],(iw n b (ld l b ks).1 (ld l b ks).1 (ks (l.Nodes.length-1)).length).2)else(((gu b ks l.Nodes []).1++(gu b ks l.Nodes []).1)++[(iw n b (ld l b ks).1 (ld l b ks).1 (ks (l.Nodes.length-1)).length).1],0):=by
  have e:(d2 n l l).Nodes=(l.Nodes++l.Nodes.map (uh (l.Nodes.length:Int)))++[Xh ((l.Nodes.length:Int)-1) ((l.Nodes.length:Int)+(l.Nodes.length:Int)-1) n]:=rfl
  have e1:gu b ks' (l.Nodes++l.Nodes.map (uh (l.Nodes.length:Int))) []=((gu b ks l.Nodes []).1++(gu b ks l.Nodes []).1,0):=by
   rw [EF,hrun,aL (by simp [g1]),hrun2]
  rw [e,EF,e1,aL (by simp)]
  have eA:qB ((gu b ks l.Nodes []).1++(gu b ks l.Nodes []).1) ((l.Nodes.length:Int)-1)=(ld l b ks).1:=by
   have:=Lp (rows:=(gu b ks l.Nodes []).1) [] (by omega) (x:=(l.Nodes.length:Int)-1) (by rw [g2];simp) (gu b ks l.Nodes []).1
   rw [jY]at this
   rw [this,g3]
  have eB:qB ((gu b ks l.Nodes []).1++(gu b ks l.Nodes []).1) ((l.Nodes.length:Int)+(l.Nodes.length:Int)-1)=(ld l b ks).1:=by
   have:=Lp (rows:=(gu b ks l.Nodes []).1) (gu b ks l.Nodes []).1 (by omega) (x:=(l.Nodes.length:Int)+(l.Nodes.length:Int)-1) (by rw [g2]) []
   rw [rn]at this
   rw [this,g3]
  have eW:BU ks' ((l.Nodes.length:Int)+(l.Nodes.length:Int)-1)=(ks (l.Nodes.length-1)).length:=by
   unfold BU
   rw [aL (by omega),←hks2 (l.Nodes.length-1) (by omega)]
   congr 2
   omega
  refine TO b ks' _ _ _ ?_
  show iw (Xh ((l.Nodes.length:Int)-1) ((l.Nodes.length:Int)+(l.Nodes.length:Int)-1) n) b (qB ((gu b ks l.Nodes []).1++(gu b ks l.Nodes []).1) ((l.Nodes.length:Int)-1)) (qB ((gu b ks l.Nodes []).1++(gu b ks l.Nodes []).1) ((l.Nodes.length:Int)+(l.Nodes.length:Int)-1)) (BU ks' ((l.Nodes.length:Int)+(l.Nodes.length:Int)-1))=_
  rw [eA,eB,eW,SA]
 have e2:ld (d2 n l l) b ks' =Gs (gu b ks' (d2 n l l).Nodes []):=rfl
 rw [e2,hall]
 exact VX _ _ Qo

def oR:bG:=⟨[(⟨(1:Int),(-1:Int),(-1:Int),(0:Int),(⟨(1:Int),(0:Int),(0:Int),[]⟩:ac)⟩:bo)]⟩
theorem Wz(x:cu):oS x oR.Nodes=(bV false,0):=by kernel_rfl
theorem X5(x:cu):wn oR x=false:=by unfold wn;rw [Wz];rfl
theorem Od(x:cu):tI oR x=false:=by unfold tI VU;rw [Wz];rfl
def nJ(left:Bool):aj:=⟨(2:Int),(0:Int),(0:Int),(0:Int),[],left,oR,[],[],[],[],(0:Int)⟩
theorem JP(op RC:Int)(left:Bool)(e:bG)(order:List gG)(he:e.Nodes.length≤100)(hr:If e.Nodes)(ho:order.length≤20):qC ⟨op,0,0,0,[],left,e,[],[],[],order,RC⟩:=
 ⟨⟨by show e.Nodes.length≤5000;omega,by simp,by simp,by simp,by simp,by show order.length≤5000;omega,by simp,by simp⟩,⟨by show e.Nodes.length≤200;omega,hr⟩,fun x hx=>by(cases hx),fun x hx=>by(cases hx)⟩
theorem ZO:If oR.Nodes:=by
 intro n hn
 rw [zN.1 hn]
 unfold r64
 decide
theorem Um{R:List cu}(hl:R.length≤60)(b:dx)(w:Nat)(left:Bool):(iw (nJ left) b R R w).2=0∧(iw (nJ left) b R R w).1.length=if left then R.length else 0:=by
 have hm:R.length*R.length≤60*60:=vL hl hl
 have hj:zA (nJ left) R R w=(R.flatMap (o4 oR R)++R.flatMap (xS oR R w left),0):=by
  unfold zA
  rw [aL (by omega),aL]
  ·rfl
  ·rw [xd,CQ]
   intro x _
   unfold Fj
   rw [xd,CQ]
   intro y _
   show¬wn oR (x++y)=true
   rw [X5];decide
 have hM: ∀x,o4 oR R x=[]:=by
  intro x
  unfold o4
  rw [NM]
  intro z _
  rw [Od];decide
 have hH: ∀x,wZ oR R x=false:=by
  intro x
  unfold wZ
  rw [CQ]
  intro y _
  rw [Od];decide
 have hMs:R.flatMap (o4 oR R)=[]:=by
  rw [List.flatMap_eq_nil_iff]
  exact fun x _=>hM x
 have hF:(R.flatMap (xS oR R w left)).length=if left then R.length else 0:=by
  have: ∀l:List cu,(l.flatMap (xS oR R w left)).length=if left then l.length else 0:=by
   intro l
   induction l with
   |nil=>cases left<;>rfl
   |cons x t ih=>
    rw [List.flatMap_cons,iI,ih]
    unfold xS
    rw [hH]
    cases left
    ·rfl
    ·simp;omega
  exact this R
 unfold iw uu
 have ho:(nJ left).Op=2:=rfl
 rw [aL (by rw [ho];decide),aY ho,hj,hMs,jY]
 unfold Fp
 rw [aL (by simp)]
 have hlen: ¬8000<(R.flatMap (xS oR R w left),(0:Int)).1.length:=by
  show¬8000<(R.flatMap (xS oR R w left)).length
  rw [hF]
  split<;>omega
 rw [aL hlen,aL (by rw [ho];decide)]
 refine⟨rfl,?_⟩
 show(wX _).length=_
 rw [vY,hF]
theorem JE{R:List cu}(hl:R.length≤60)(b:dx)(w:Nat):iw E5 b R R w=(wX (R++R),0):=by
 unfold iw uu
 have ho:E5.Op=7:=rfl
 rw [aL (by rw [ho];decide),aL (by rw [ho];decide),aL (by rw [ho];decide),aL (by rw [ho];decide),aL (by rw [ho];decide),aL (by rw [ho];decide),aY ho]
 unfold Fp
 rw [aL (by simp),aL (by simp only [iI];omega),aL (by rw [ho];decide)]
theorem Ma(l:bc)(b:dx)(hl:rgL l)(hb:EL b):nL l b=some true:=by
 unfold nL
 rw [LX,bf,aL (by decide)]
 obtain⟨w,h1,h2⟩:=Kp b
 obtain⟨v,h3,h4⟩:=TZ l b
 rw [h1,bf,h3]
 cases w with
 |true=>rfl
 |false=>
  cases v with
  |true=>rfl
  |false=>
   obtain⟨hn,hsl⟩:=h4 rfl
   have hN: ∀n∈l.Nodes,qC n:=fun n hn=>(hsl n hn).g (hl n hn)
   have hS:kQ l:=fun n hn=>(hN n hn).small
   simp only [BW,ep,bf,fL,d7]
   by_cases hr:iP l=true
   ·by_cases hf:C9 l b=true
    ·obtain⟨sz,ks,T⟩:=H0 hN hb hr hf
     rw [q5 T hf,bf]
     by_cases hc:((ld l b ks).2 !=(0:Int)||decide ((60:Int)<((ld l b ks).1.length:Int)))=true
     ·rw [aY hc]
     ·rw [aL hc]
      simp only [pW,kX,qD,oU,not_or,Classical.not_not,Int.not_lt]at hc
      obtain⟨h0,hlen⟩:=hc
      have hlen:(ld l b ks).1.length≤60:=by omega
      obtain⟨p1,p2,_⟩:=TP T
      have hk16:(ks (l.Nodes.length-1)).length≤16:=PU T.known
      have gU:qC E5:=JP 7 0 false ⟨[]⟩ [] (by simp) (fun x hx=>by(cases hx)) (by simp)
      have gJ: ∀left,qC (nJ left):=fun left=>JP 2 0 left oR [] (by decide) ZO (by simp)
      have hk1:jt l b (ld l b ks)=some true:=by
       have step: ∀(k i:Nat) (e:Bool),cN [false,true] (i:Int)=some e→dG l b (ld l b ks) k (i+1)=some true→dG l b (ld l b ks) (k+1) i=some true:=by
        intro k i e he hnext
        unfold dG
        rw [he,bf]
        have eJ:(⟨(2:Int),(0:Int),(0:Int),(0:Int),[],e,(⟨[(⟨(1:Int),(-1:Int),(-1:Int),(0:Int),(⟨(1:Int),(0:Int),(0:Int),[]⟩:ac)⟩:bo)]⟩:bG),[],[],[],[],(0:Int)⟩:aj)=nJ e:=rfl
        rw [eJ]
        unfold vt
        rw [KE (gJ e).small hS hS hr hr]
        cases hrd:iP (d2 (nJ e) l l)with
        |false=>
         simp only [fL,d7,bf]
         rw [aY (by decide)]
         exact hnext
        |true=>
         simp only [ep,bf]
         obtain⟨g1,_⟩:=GN T hb hf (gJ e) (by show(2:Int)≠1;decide) hrd h0
         obtain⟨j1,j2⟩:=Um hlen b (ks (l.Nodes.length-1)).length e
         rw [aL (by decide),g1,bf]
         unfold lr
         rw [j1,j2]
         cases e with
         |false=>
          simp only [fL,d7]
          rw [aL (by decide)]
          exact hnext
         |true=>
          simp only [ep]
          rw [aL (by simp)]
          exact hnext
       unfold jt
       exact step 1 0 false rfl (step 0 1 true rfl rfl)
      have eU:(⟨(7:Int),(0:Int),(0:Int),(0:Int),[],false,(⟨[]⟩:bG),[],[],[],[],(0:Int)⟩:aj)=E5:=rfl
      rw [eU]
      unfold vt
      rw [KE gU.small hS hS hr hr]
      cases hrd:iP (d2 E5 l l)with
      |false=>
       simp only [fL,d7,bf]
       rw [aL (by decide)]
       exact hk1
      |true=>
       simp only [ep,bf]
       obtain⟨g1,_⟩:=GN T hb hf gU (by show(7:Int)≠1;decide) hrd h0
       have hsm:=p1.small hk16 p2
       rw [aY (by decide),g1,bf,JE hlen,Gc hsm hsm (by omega),p1.allr hk16]
       simp only [bf,Bool.and_self,ep]
       rw [JV]
       simp only [DX,Bool.or_self,BW,ep,bf,AH,mw,fL,d7]
       exact hk1
    ·rw [BD hS hr (rR.2 hf)];rfl
   ·rw [Fy hS (rR.2 hr)];rfl
end Go.Proofs.YtfhhakidodmdfaaGreatDoor

