/- cU of this claim: K9, J15, J16, J17. -/
import Derived.Test.YtfhhakidodmdfaaGreatDoorJfQ2
import Derived.Test.YtfhhakidodmdfaaGreatDoorJfQ4
set_option linter.all false
namespace Go.Proofs.YtfhhakidodmdfaaGreatDoor
open Go



variable{b:dv}{ks:Nat→List Int}{n:aj}
theorem Ky(b:dv)(ks:Nat→List Int): ∀(p q:List aj) (rows:List (List ci)),lv b ks (p++q) rows=if(lv b ks p rows).2≠0 then([],(lv b ks p rows).2)else lv b ks q (lv b ks p rows).1
 |[],q,rows=>by
  have e:lv b ks [] rows=(rows,0):=rfl
  rw [e,aK (by simp)]
  rfl
 |n::t,q,rows=>by
  rw [wl]
  by_cases h:(kY n b (xn rows n.A) (xn rows n.B) (Mz ks n.B)).2≠0
  ·have e1: ∀s:List aj,lv b ks (n::s) rows=([],(kY n b (xn rows n.A) (xn rows n.B) (Mz ks n.B)).2):=fun s=>by conv=>lhs;unfold lv;rw [aY h]
   rw [e1,e1,aY h]
  ·have e1: ∀s:List aj,lv b ks (n::s) rows=lv b ks s (rows++[(kY n b (xn rows n.A) (xn rows n.B) (Mz ks n.B)).1]):=fun s=>by conv=>lhs;unfold lv;rw [aK h]
   rw [e1,e1,Ky b ks t q]
theorem ON(b:dv)(ks ks' :Nat→List Int): ∀(t:List aj) (rows:List (List ci)),(∀n∈t,Mz ks n.B=Mz ks' n.B)→lv b ks t rows=lv b ks' t rows
 |[],_,_=>rfl
 |n::t,rows,h=>by
  unfold lv
  rw [h n (kZ ..)]
  split
  ·rfl
  ·exact ON b ks ks' t _ fun m hm=>h m (kN _ hm)
theorem Tg(p q:Int)(n:aj)(b:dv)(x y:List ci)(w:Nat):kY (GV p q n) b x y w=kY n b x y w:=rfl
theorem qG.sh(h:qG n)(d:Int):qG (yb d n):=⟨h.small.sh d,h.cond,h.items,h.args⟩
theorem qG.at(h:qG n)(x y:Int):qG (GV x y n):=⟨h.small.at x y,h.cond,h.items,h.args⟩
variable{l:bc}{sz:Nat→Nat}
theorem K0(T:xo l b sz ks): ∀n∈l.Nodes,(n.A= -1∨0≤n.A∧n.A<(l.Nodes.length:Int))∧(n.B= -1∨0≤n.B∧n.B<(l.Nodes.length:Int)):=by
 intro n hn
 obtain⟨j,hj,e⟩:=List.mem_iff_getElem.1 hn
 obtain⟨m,F⟩:=T.known.all j hj
 have:m=n:=by
  have:=F.node
  rw [bT,oM hj,e]at this
  injection this with this
  exact this.symm
 subst this
 obtain⟨pA,pB⟩:=mF F
 omega
theorem RR(T:xo l b sz ks)(h0:(fZ l b ks).2=0):(lv b ks l.Nodes []).2=0∧(lv b ks l.Nodes []).1.length=l.Nodes.length∧yw (lv b ks l.Nodes []).1=(fZ l b ks).1:=by
 obtain⟨h1,h2⟩:=E2 T l.Nodes 0 [] rfl (lS _) (YN ks)
 unfold fZ GQ at h0 ⊢
 by_cases h:(lv b ks l.Nodes []).2=0
 ·refine⟨h,(h1 h).len,?_⟩
  rw [aK (by simp [h])]
 ·rw [aY h]at h0
  exact absurd h0 h
theorem TF{rows:List (List ci)}(pre:List (List ci))(h:1≤rows.length){x:Int}(hx:x=(pre.length:Int)+(rows.length:Int)-1)(post:List (List ci)):xn (pre++rows++post) x=yw rows:=by
 unfold xn yw
 rw [aK (by omega),Ao (by simp only [jg];omega),tA (by omega)]
 congr 2
 omega
theorem Uu(b:dv)(ks:Nat→List Int)(m:aj)(rows:List (List ci))(q:List ci×Int)(hq:kY m b (xn rows m.A) (xn rows m.B) (Mz ks m.B)=q):lv b ks [m] rows=if q.2≠0 then([],q.2)else(rows++[q.1],0):=by
 unfold lv
 rw [hq]
 rfl
theorem WC(rows:List (List ci))(q:List ci×Int)(h:q.2≠0→q.1=[]):GQ (if q.2≠0 then([],q.2)else(rows++[q.1],0))=q:=by
 unfold GQ
 by_cases hc:q.2=0
 ·rw [aK (c:=q.2≠0) (by simp [hc])]
  simp only [o8,G5,d9]
  unfold yw
  have:(rows++[q.1])[(rows++[q.1]).length-1]? =some q.1:=by simp
  rw [this,←hc];rfl
 ·rw [aY (c:=q.2≠0) hc,aY hc]
  have:=h hc
  rw [←this]
theorem QY{x y:List ci}{w:Nat}(h:(kY n b x y w).2≠0):(kY n b x y w).1=[]:=by
 unfold kY D0 at h ⊢
 split
 ·rfl
 ·split
  ·rfl
  ·rename_i a1 a2;rw [aK a1,aK a2]at h;exact absurd rfl h
theorem Cv(T:xo l b sz ks)(hb:E8 b)(hf:Dv l b=true)(hn:qG n)(h1:n.Op≠1)(hr:ip (d1 n l)=true)(h0:(fZ l b ks).2=0):gO (d1 n l) b=some (kY n b (fZ l b ks).1 [] 0)∧ ∃sz' ks',xo (d1 n l) b sz' ks' ∧ks' (l.Nodes.length-1)=ks (l.Nodes.length-1):=by
 have hN: ∀m∈(d1 n l).Nodes,qG m:=by
  intro m hm
  unfold d1 at hm
  rcases zA.1 hm with q|q
  ·exact T.nodes m q
  ·rw [A3.1 q];exact hn.at _ _
 have hfit:Dv (d1 n l) b=true:=by
  unfold Dv d1
  rw [G1]
  have:l.Nodes.all (LB b)=true:=hf
  rw [this]
  have h1' :((GV ((l.Nodes.length:Int)-1) (-1) n).Op==1)=false:=by show(n.Op==1)=false;simpa using h1
  simp only [xE,List.all_nil,xM,u9]
  unfold LB
  rw [h1'];rfl
 obtain⟨sz',ks',T'⟩:=Ip hN hb hr hfit
 obtain⟨g1,g2,g3⟩:=RR T h0
 have hle:=T.known.le
 have hpos:=T.known.pos
 have hdl:=N6 n l
 have hu:=Ys (l:=l) (d:=d1 n l) (e:=0) (m:=l.Nodes.length) T.known.all T'.known.all (dh _) (by omega) (by omega) (by omega) (fun j hj m hm=>by
  obtain⟨m',F⟩:=T.known.all j hj
  have e:m=m' :=by have:=F.node;rw [hm]at this;injection this
  subst e
  rw [qS,CA T.known F hj,aaX hj]
  exact hm)
 have hks: ∀j,j<l.Nodes.length→ks' j=ks j:=fun j hj=>by have:=(hu j hj).2;rwa [qS]at this
 have hrun:lv b ks' l.Nodes []=lv b ks l.Nodes []:=ON b ks' ks _ _ fun m hm=>by
  obtain⟨_,pB⟩:=K0 T m hm
  unfold Mz
  rcases pB with q|q
  ·rw [aY (by omega),aY (by omega)]
  ·rw [aK (by omega),aK (by omega),hks _ (by omega)]
 refine⟨?_,sz',ks',T',hks _ (by omega)⟩
 rw [ro T' hfit]
 congr 1
 have hall:lv b ks' (d1 n l).Nodes []=if(kY n b (fZ l b ks).1 [] 0).2≠0 then([],(kY n b (fZ l b ks).1 [] 0).2)else((lv b ks l.Nodes []).1++[(kY n b (fZ l b ks).1 [] 0).1],0):=by
  have e:(d1 n l).Nodes=l.Nodes++[GV ((l.Nodes.length:Int)-1) (-1) n]:=rfl
  rw [e,Ky,hrun,aK (by simp [g1])]
  have eA:xn (lv b ks l.Nodes []).1 ((l.Nodes.length:Int)-1)=(fZ l b ks).1:=by
   have:=TF (rows:=(lv b ks l.Nodes []).1) [] (by omega) (x:=(l.Nodes.length:Int)-1) (by rw [g2];simp) []
   simp only [kz,sw]at this
   rw [this,g3]
  have eB:xn (lv b ks l.Nodes []).1 (-1)=[]:=rfl
  have eW:Mz ks' (-1)=0:=rfl
  refine Uu b ks' _ _ _ ?_
  show kY (GV ((l.Nodes.length:Int)-1) (-1) n) b (xn (lv b ks l.Nodes []).1 ((l.Nodes.length:Int)-1)) (xn (lv b ks l.Nodes []).1 (-1)) (Mz ks' (-1))=_
  rw [eA,eB,eW,Tg]
 have e2:fZ (d1 n l) b ks' =GQ (lv b ks' (d1 n l).Nodes []):=rfl
 rw [e2,hall]
 exact WC _ _ QY

theorem ET(op Ua:Int)(left:Bool)(e:bJ)(order:List fq)(he:e.Nodes.length≤100)(hr:IE e.Nodes)(ho:order.length≤20):qG ⟨op,0,0,0,[],left,e,[],[],[],order,Ua⟩:=
 ⟨⟨by show e.Nodes.length≤5000;omega,by simp,by simp,by simp,by simp,by show order.length≤5000;omega,by simp,by simp⟩,⟨by show e.Nodes.length≤200;omega,hr⟩,fun x hx=>by(cases hx),fun x hx=>by(cases hx)⟩
theorem LO:ip ⟨[]⟩=false:=by kernel_rfl
def wX(l:List ci)(r:ci):Nat:=l.countP fun x=>decide (r=x)
variable{r:ci}
theorem F2{r:ci}(hr:dM r=true): ∀(l:List ci) (k:Nat),(∀x∈l,dM x=true)→k+l.length≤100000→gA r l (k:Int)=some (((k+wX l r:Nat)):Int)
 |[],k,_,_=>rfl
 |x::t,k,h,hl=>by
  rw [iY]at hl
  have hx:=h x (kZ ..)
  have ht:=fun y hy=>h y (kN x hy)
  unfold gA
  rw [vm hx hr,be,vy (by omega)]
  have e:wX (x::t) r=wX t r+if r=x then 1 else 0:=by
   unfold wX
   rw [List.countP_cons]
   simp
  rw [e]
  by_cases hxr:r=x
  ·subst hxr
   rw [aY (by rw [fK.self];rfl),F2 hr t (k+1) ht (by omega),aY rfl]
   congr 2
   omega
  ·rw [aK (by rw [sv,fK.eq];exact fun e=>hxr e.symm),F2 hr t k ht (by omega),aK hxr,xD]
theorem yJ(hr:dM r=true){l:List ci}(h: ∀x∈l,dM x=true)(hl:l.length≤100000):ek l r=some ((wX l r:Nat):Int):=by
 unfold ek
 have:=F2 hr l 0 h (by omega)
 rw [qS]at this
 exact this
theorem CQ{a b:List ci}(h:a.Perm b)(r:ci):wX a r=wX b r:=h.countP_eq _
theorem LV{p:ci→Bool}(h:p r=true)(l:List ci):wX (l.filter p) r=wX l r:=by
 unfold wX
 rw [List.countP_filter]
 refine List.countP_congr fun x _=>?_
 by_cases e:r=x
 ·subst e;simp [h]
 ·simp [e]
variable{R:List ci}
theorem Q0(hl:R.length≤8000)(hr:r∈R):wX (oa (pj (oa R))) r=1:=by
 have hs:=BX fK (tJ fK R (by omega))
 rw [CQ (iC dV _)]
 refine Dm ?_ ?_
 ·unfold List.Nodup
  refine hs.imp ?_
  intro a b hab he
  subst he
  rw [fK.self]at hab
  omega
 ·rw [tm,(iC dV R).mem_iff]
  exact hr
def nF(e:bJ):aj:=⟨(3:Int),(0:Int),(0:Int),(0:Int),[],false,e,[],[],[],[],(0:Int)⟩
def nS(order:List fq)(limit:Int):aj:=⟨(8:Int),(0:Int),(0:Int),(0:Int),[],false,⟨[]⟩,[],[],[],order,limit⟩
theorem LE(hl:R.length≤8000)(e:bJ)(b:dv):kY (nF e) b R [] 0=if R.any (wO e)then([],140)else(oa (R.filter (pV e)),0):=by
 unfold kY t6
 have ho:(nF e).Op=3:=rfl
 have hc:(nF e).Cond=e:=rfl
 rw [aK (by rw [ho];decide),aK (by rw [ho];decide),aY ho,hc]
 have hfl:=JW (pV e) R
 by_cases hf:R.any (wO e)=true
 ·rw [aY hf,aY hf];rfl
 ·rw [aK hf,aK hf]
  unfold D0
  rw [aK (by simp),aK (by show¬8000<(R.filter (pV e)).length;omega),aK (by rw [ho];decide)]
theorem GU(hl:R.length≤8000)(b:dv):kY tk b R [] 0=(oa (pj (oa R)),0):=by
 unfold kY t6
 have ho:tk.Op=6:=rfl
 rw [aK (by rw [ho];decide),aK (by rw [ho];decide),aK (by rw [ho];decide),aK (by rw [ho];decide),aK (by rw [ho];decide),aY ho]
 have:=CP (oa R)
 rw [oQ]at this
 unfold D0
 rw [aK (by simp),aK (by show¬8000<(pj (oa R)).length;omega),aK (by rw [ho];decide)]
theorem Qm(hl:R.length≤8000)(order:List fq)(limit:Int)(b:dv):kY (nS order limit) b R [] 0=(vY limit (rQ (qD order) R),0):=by
 unfold kY t6
 have ho:(nS order limit).Op=8:=rfl
 rw [aK (by rw [ho];decide),aK (by rw [ho];decide),aK (by rw [ho];decide),aK (by rw [ho];decide),aK (by rw [ho];decide),aK (by rw [ho];decide),aK (by rw [ho];decide)]
 have e1:(nS order limit).Limit=limit:=rfl
 have e2:(nS order limit).Order=order:=rfl
 rw [e1,e2]
 have hc:=LR limit (rQ (qD order) R)
 rw [oQ]at hc
 unfold D0
 rw [aK (by simp),aK (by show¬8000<(vY limit (rQ (qD order) R)).length;omega),aY ho]
theorem Tf(limit:Int)(l:List ci):((vY limit l).length:Int)=if 0≤limit then min (l.length:Int) limit else(l.length:Int):=by
 unfold vY
 by_cases h:0≤limit
 ·rw [aY h]
  by_cases h2:limit<(l.length:Int)
  ·rw [aY ⟨h,h2⟩,zO];omega
  ·rw [aK (fun q=>h2 q.2)];omega
 ·rw [aK h,aK (fun q=>h q.1)]
theorem PE(limit:Int)(l:List ci):(vY limit l).Sublist l:=by
 unfold vY
 split
 ·exact List.take_sublist _ _
 ·exact List.Sublist.refl _
theorem Hi(n:aj)(R first:List ci)(r4 r9:List ci×Int)(h4:r4.1=R)(h9:r9.1=first)(hR: ∀x∈R,dM x=true)(hRl:R.length≤8000)(hfr: ∀x∈first,dM x=true∧KY n.Order x=true)(hfl:first.length≤8000)(hcnt: ∀r,wX first r≤wX R r)(hs:first.Pairwise fun a c=>qD n.Order a c≤0): ∀(t:List ci) (i:Nat),first.drop i=t→jF n r4 r9 t i=some true
 |[],i,_=>rfl
 |e::t,i,hd=>by
  obtain⟨h1,h2,h3⟩:=kj hd
  have he:e∈first:=by rw [bT]at h1;exact rO h1
  obtain⟨he1,he2⟩:=hfr e he
  unfold jF
  rw [h4,h9,yJ he1 (fun x hx=>(hfr x hx).1) (by omega),be,yJ he1 hR (by omega),be]
  have hc:=hcnt e
  have e1:decide (((wX R e:Nat):Int)<((wX first e:Nat):Int))=false:=by rw [DO];omega
  rw [e1]
  have e2:(if(decide ((0:Int)<(i:Int)))then((cN first (IntKind.i64.wrap ((i:Int)-(1:Int)))).bind fun e3=>(qC e e3 n.Order).bind fun r12=>some r12)else some false)=some false:=by
   by_cases hi:0<i
   ·rw [aY (by rw [kM];omega),pN (by omega) (by omega),show(i:Int)-1=((i-1:Nat):Int)from by omega,bT,oM (by omega),be]
    obtain⟨q1,q2⟩:=hfr _ (JQ (show i-1<first.length by omega))
    rw [D3,he1,he2,q1,q2]
    simp only [Bool.and_self,eg,be]
    have hp:=List.pairwise_iff_getElem.1 hs (i-1) i (by omega) h2 (by omega)
    have hee:first[i]=e:=by rw [bT,oM h2]at h1;injection h1
    rw [hee]at hp
    have ha:=(vZ n.Order).anti first[i-1] e
    congr 1
    rw [DO]
    omega
   ·rw [aK (by rw [kM];omega)]
  simp only [Ak,eg]
  rw [e2]
  simp only [be,gm,d9]
  exact Hi n R first r4 r9 h4 h9 hR hRl hfr hfl hcnt hs t (i+1) h3
theorem Ae(l:bc)(b:dv)(n:aj)(r4 r7:List ci×Int)(hR: ∀x∈r4.1,dM x=true)(h7: ∀x∈r7.1,dM x=true)(h7l:r7.1.length≤100000)(hend:ge l b n r4 r7 []=some true): ∀t:List ci,(∀x∈t,x∈r4.1∧wX r7.1 x=1)→ge l b n r4 r7 t=some true
 |[],_=>hend
 |e::t,h=>by
  obtain⟨h1,h2⟩:=h e (kZ ..)
  unfold ge
  rw [yJ (hR e h1) h7 h7l,be,h2,aK (by decide)]
  exact Ae l b n r4 r7 hR h7 h7l hend t fun x hx=>h x (kN _ hx)
theorem Dw(l:bc)(b:dv)(n:aj)(r4 r14:List ci×Int)(hR: ∀x∈r4.1,dM x=true)(hRl:r4.1.length≤100000)(h7: ∀x∈r14.1,dM x=true)(h7l:r14.1.length≤100000)(hend:ij l b n r4=some true): ∀t:List ci,(∀x∈t,dM x=true∧wX r14.1 x=wX r4.1 x)→jE l b n r4 r14 t=some true
 |[],_=>hend
 |e::t,h=>by
  obtain⟨h1,h2⟩:=h e (kZ ..)
  unfold jE
  rw [yJ h1 h7 h7l,be,yJ h1 hR hRl,be,h2,aK (by simp)]
  exact Dw l b n r4 r14 hR hRl h7 h7l hend t fun x hx=>h x (kN _ hx)
theorem NO(l:bc)(b:dv)(n:aj)(hl:rgL l)(hb:E8 b)(hn:IE n.Cond.Nodes):n7 l b n=some true:=by
 unfold n7
 rw [MF,be,aK (by decide)]
 obtain⟨w,h1,h2⟩:=KP b
 obtain⟨v,h3,h4⟩:=UE l b
 obtain⟨u,h5,h6⟩:=uO n.Cond
 rw [h1,be,h3,h5]
 cases w with
 |true=>rfl
 |false=>
  cases v with
  |true=>rfl
  |false=>
   cases u with
   |true=>rfl
   |false=>
    obtain⟨_,hsl⟩:=h4 rfl
    have hc100:=h6 rfl
    have hN: ∀n∈l.Nodes,qG n:=fun n hn=>(hsl n hn).g (hl n hn)
    have hS:lQ l:=fun n hn=>(hN n hn).small
    simp only [Ak,eg,be,rM]
    by_cases ho20:20<n.Order.length
    ·rw [aY (by rw [kM];omega)]
    ·rw [aK (by rw [kM];omega)]
     by_cases hr:ip l=true
     ·by_cases hf:Dv l b=true
      ·obtain⟨sz,ks,T⟩:=Ip hN hb hr hf
       obtain⟨p1,p2,_⟩:=Uv T
       have hk16:(ks (l.Nodes.length-1)).length≤16:=QF T.known
       have hpos:=T.known.pos
       have hle:=T.known.le
       rw [ro T hf,be,pN (by omega) (by omega),show(l.Nodes.length:Int)-1=((l.Nodes.length-1:Nat):Int)from by omega]
       obtain⟨ra,hroot⟩: ∃ra,cN l.Nodes ((l.Nodes.length-1:Nat):Int)=some ra:=by
        rw [bT,oM (by omega)];exact⟨_,rfl⟩
       rw [hroot]
       by_cases h0:(fZ l b ks).2=0
       ·have e0:((fZ l b ks).2 !=(0:Int))=false:=by simp [h0]
        rw [e0]
        simp only [Ak,eg,be]
        by_cases hc:(ra.Op==8||decide ((60:Int)≤(l.Nodes.length:Int)))=true
        ·rw [aY hc]
        ·rw [aK hc]
         simp only [pZ,kM,sv,not_or,Int.not_le]at hc
         obtain⟨h8,h60⟩:=hc
         have hRright: ∀x∈(fZ l b ks).1,dM x=true:=fun x hx=>(p1 x hx).right hk16
         have gF:qG (nF n.Cond):=ET 3 0 false n.Cond [] hc100 hn (by simp)
         have gD:qG tk:=ET 6 0 false ⟨[]⟩ [] (by simp) (fun x hx=>by(cases hx)) (by simp)
         have gS:qG (nS n.Order n.Limit):=ET 8 n.Limit false ⟨[]⟩ n.Order (by simp) (fun x hx=>by(cases hx)) (by omega)
         have hdl:=CP (oa (fZ l b ks).1)
         rw [oQ]at hdl
         have hk1:ij l b n (fZ l b ks)=some true:=by
          unfold ij rb
          have eD:(⟨(6:Int),(0:Int),(0:Int),(0:Int),[],false,(⟨[]⟩:bJ),[],[],[],[],(0:Int)⟩:aj)=tk:=rfl
          have hrd:ip (d1 tk l)=true:=(aaY T.known hroot h8 (by rfl) (by show(6:Int)≠1;decide) (by show(6:Int)≠2;decide) (by show(6:Int)≠7;decide) (by rfl) (FY _) hk16 (by omega)).1
          rw [eD,FF gD.small hS hr,hrd]
          obtain⟨g1,_⟩:=Cv T hb hf gD (by show(6:Int)≠1;decide) hrd h0
          simp only [eg,be]
          rw [g1,GU p2,be,aK (by simp)]
          have honce: ∀x∈oa (pj (oa (fZ l b ks).1)),dM x=true:=by
           intro x hx
           rw [(iC dV _).mem_iff,tm,(iC dV _).mem_iff]at hx
           exact hRright x hx
          have hol:(oa (pj (oa (fZ l b ks).1))).length≤(fZ l b ks).1.length:=by rw [oQ];exact hdl
          refine Ae l b n (fZ l b ks) (oa (pj (oa (fZ l b ks).1)),0) hRright honce (by show(oa _).length≤100000;omega) ?_ _ (fun x hx=>⟨hx,Q0 p2 hx⟩)
          unfold ge rb
          have eS:(⟨(8:Int),(0:Int),(0:Int),(0:Int),[],false,(⟨[]⟩:bJ),[],[],[],n.Order,n.Limit⟩:aj)=nS n.Order n.Limit:=rfl
          rw [eS,FF gS.small hS hr]
          cases hrs:ip (d1 (nS n.Order n.Limit) l)with
          |false=>
           simp only [gm,d9,be]
           rw [aY (by decide)]
           congr 1
           rw [kM]
           omega
          |true=>
           simp only [eg,be]
           obtain⟨g2,sz',ks',T',hks⟩:=Cv T hb hf gS (by show(8:Int)≠1;decide) hrs h0
           rw [aK (by decide),g2,Qm p2,be]
           have hcols: ∀o∈n.Order,0≤o.Col∧o.Col<((ks (l.Nodes.length-1)).length:Int):=by
            obtain⟨m,F⟩:=T'.known.all l.Nodes.length (by rw [N6];omega)
            have hm:m=GV ((l.Nodes.length:Int)-1) (-1) (nS n.Order n.Limit):=by
             have:=F.node
             rw [aaW]at this
             injection this with this
             exact this.symm
            subst hm
            have hk:=F.kinds
            have:=(I0 (gS.at _ _).small (by rfl) hk).2
            have eA:(GV ((l.Nodes.length:Int)-1) (-1) (nS n.Order n.Limit)).A=(l.Nodes.length:Int)-1:=rfl
            have eO:(GV ((l.Nodes.length:Int)-1) (-1) (nS n.Order n.Limit)).Order=n.Order:=rfl
            rw [eA,eO,aK (by omega),show((l.Nodes.length:Int)-1).toNat=l.Nodes.length-1 from by omega,hks]at this
            exact this
           have hfr: ∀x∈vY n.Limit (rQ (qD n.Order) (fZ l b ks).1),dM x=true∧KY n.Order x=true:=by
            intro x hx
            have hx:=(iC _ _).mem_iff.1 (LQ hx)
            refine⟨hRright x hx,?_⟩
            unfold KY
            rw [jW]
            intro o ho
            have:=hcols o ho
            rw [←(p1 x hx).len]at this
            simp [this.1,this.2]
           have hcl:=LR n.Limit (rQ (qD n.Order) (fZ l b ks).1)
           rw [oQ]at hcl
           have hmost:=Tf n.Limit (rQ (qD n.Order) (fZ l b ks).1)
           rw [oQ]at hmost
           have hfin: ∀most:Int,((vY n.Limit (rQ (qD n.Order) (fZ l b ks).1)).length:Int)=most→jG n (fZ l b ks) (oa (pj (oa (fZ l b ks).1)),0) (vY n.Limit (rQ (qD n.Order) (fZ l b ks).1),0) most=some true:=by
            intro most hmm
            unfold jG
            rw [aK]
            ·refine Hi n (fZ l b ks).1 (vY n.Limit (rQ (qD n.Order) (fZ l b ks).1)) (fZ l b ks) (vY n.Limit (rQ (qD n.Order) (fZ l b ks).1),0) rfl rfl hRright p2 hfr (by omega) ?_ ?_ _ 0 rfl
             ·intro r
              rw [←CQ (iC (qD n.Order) (fZ l b ks).1) r]
              exact(PE _ _).countP_le ..
             ·exact(tJ (vZ n.Order) _ (by omega)).sublist (PE _ _)
            ·simp only [pZ,kM,qR,o8,not_or,Classical.not_not,Int.not_lt]
             refine⟨⟨trivial,hmm⟩,?_⟩
             omega
           by_cases hlim:0≤n.Limit
           ·rw [aY (by simpa using hlim)]
            rw [aY hlim]at hmost
            exact hfin _ hmost
           ·rw [aK (by simpa using hlim)]
            rw [aK hlim]at hmost
            exact hfin _ hmost
         unfold rb
         have eF:(⟨(3:Int),(0:Int),(0:Int),(0:Int),[],false,n.Cond,[],[],[],[],(0:Int)⟩:aj)=nF n.Cond:=rfl
         rw [eF,FF gF.small hS hr]
         cases hrf:ip (d1 (nF n.Cond) l)with
         |false=>
          simp only [gm,d9,be]
          rw [yG (l:=⟨[]⟩) (fun m hm=>by(cases hm)) LO,be,aK (by decide)]
          exact hk1
         |true=>
          simp only [eg,be]
          obtain⟨g1,_⟩:=Cv T hb hf gF (by show(3:Int)≠1;decide) hrf h0
          rw [g1,LE p2,be]
          by_cases hfl:(fZ l b ks).1.any (wO n.Cond)=true
          ·rw [aY hfl,aK (by decide)]
           exact hk1
          ·rw [aK hfl,aY (by rfl)]
           have hfil:=JW (pV n.Cond) (fZ l b ks).1
           have hsome: ∀x∈oa ((fZ l b ks).1.filter (pV n.Cond)),x∈(fZ l b ks).1∧pV n.Cond x=true:=by
            intro x hx
            rw [(iC dV _).mem_iff]at hx
            exact Ew.1 hx
           refine Dw l b n (fZ l b ks) (oa ((fZ l b ks).1.filter (pV n.Cond)),0) hRright (by omega) (fun x hx=>hRright x (hsome x hx).1) (by show(oa _).length≤100000;rw [oQ];omega) hk1 _ (fun x hx=>⟨hRright x (hsome x hx).1,?_⟩)
           show wX (oa _) x=_
           rw [CQ (iC dV _),LV (hsome x hx).2]
       ·have e0:((fZ l b ks).2 !=(0:Int))=true:=by simpa using h0
        rw [e0]
        rfl
      ·rw [BV hS hr (rN.2 hf)];rfl
     ·rw [yG hS (rN.2 hr)];rfl
end Go.Proofs.YtfhhakidodmdfaaGreatDoor

