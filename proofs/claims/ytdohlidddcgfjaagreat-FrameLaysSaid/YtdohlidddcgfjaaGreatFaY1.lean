/- cT of this claim: Y1. -/
import Derived.Test.YtdohlidddcgfjaaGreatFaQ2
set_option linter.all false
namespace Go.Proofs.YtdohlidddcgfjaaGreat
open Go

def lO(op:Int):Int:=if op=1∨op=9 then 0 else if op=2∨op=7 then 2 else if op=3∨op=4∨op=5∨op=6∨op=8∨op=10∨op=11 then 1 else -1
theorem td(op:Int):uw op=some (lO op):=by
 by_cases h1:op=1
 ·subst h1;rfl
 by_cases h2:op=2
 ·subst h2;rfl
 by_cases h3:op=3
 ·subst h3;rfl
 by_cases h4:op=4
 ·subst h4;rfl
 by_cases h5:op=5
 ·subst h5;rfl
 by_cases h6:op=6
 ·subst h6;rfl
 by_cases h7:op=7
 ·subst h7;rfl
 by_cases h8:op=8
 ·subst h8;rfl
 by_cases h9:op=9
 ·subst h9;rfl
 by_cases h10:op=10
 ·subst h10;rfl
 by_cases h11:op=11
 ·subst h11;rfl
 simp [uw,qG,qF,iR,lO,h1,h2,h3,h4,h5,h6,h7,h8,h9,h10,h11]
theorem yP(v:Int): ∀(l:List Int) (i:Nat),∃j:Int,gQ v l i=some j∧((0≤j)↔v∈l)∧(0≤j→ ∃k:Nat,j=((i+k:Nat):Int)∧k<l.length∧l[k]? =some v)∧ -1≤j
 |[],i=>⟨-1,rfl,by simp,by simp,by simp⟩
 |e::tl,i=>by
  unfold gQ
  by_cases h:v=e
  ·subst h
   exact⟨i,by simp,by simp,fun _=>⟨0,by simp,by simp,rfl⟩,by omega⟩
  ·obtain⟨j,h1,h2,h3,h4⟩:=yP v tl (i+1)
   refine⟨j,by rw [aW (by simpa using h)];exact h1,by rw [h2];simp [h],fun hj=>?_,h4⟩
   obtain⟨k,g1,g2,g3⟩:=h3 hj
   exact⟨k+1,by rw [g1];congr 1;omega,by simp;omega,by simpa using g3⟩
theorem ES(l:List Int)(v:Int): ∃j:Int,nm l v=some j∧((0≤j)↔v∈l)∧(0≤j→ ∃k:Nat,j=(k:Int)∧k<l.length∧l[k]? =some v)∧ -1≤j:=by
 obtain⟨j,h1,h2,h3,h4⟩:=yP v l 0
 exact⟨j,h1,h2,fun hj=>by obtain⟨k,g1,g2,g3⟩:=h3 hj;exact⟨k,by simpa using g1,g2,g3⟩,h4⟩
theorem uX(l:List Int)(v:Int):fN l v=some (decide (v∈l)):=by
 unfold fN
 obtain⟨j,h1,h2,_⟩:=ES l v
 rw [h1,bj,xJ.2 h2]
def Hs(n:ap)(a b R:List Int):Prop:=
 (n.Op=1→R=n.Kinds∧0≤n.Table∧n.Table<4∧0<n.Kinds.length∧ ∀k∈n.Kinds,1≤k∧k≤3)∧(n.Op=9→R=n.Kinds∧0≤n.Table∧n.Table<30∧0<n.Kinds.length)∧(n.Op=2→a.length≤R.length)∧(n.Op=3∨n.Op=6∨n.Op=8→R=a)∧
  (n.Op=4∨n.Op=10∨n.Op=11→n.Keys.length≤R.length)∧(n.Op=5→R.length=n.Items.length)∧(n.Op=7→R.length=a.length)
structure Lb(l:al):Prop where
 n:jg l.n
 a:l.a_.length≤16
 b:l.b.length≤16
def sx(m:al→Option (Bool×al))(l:al)(P:List Int→Prop):Prop:= ∃ok R,m l=some (ok,{l with result:=R})∧(ok=true→P R)
theorem JT{l:al}:sx jb l (fun R=>R=l.n.Kinds∧0≤l.n.Table∧l.n.Table<4∧0<l.n.Kinds.length∧ ∀k∈l.n.Kinds,1≤k∧k≤3):=by
 unfold sx jb
 rw [jH (f:=od) (g:=fun k=>(decide (k<(1:Int)))||(decide ((3:Int)<k))) (fun _=>rfl),bj]
 refine⟨_,_,rfl,fun h=>⟨rfl,?_⟩⟩
 simp only [gX,rl]at h
 obtain⟨⟨⟨⟨h1,h2⟩,h3⟩,h4⟩,h5⟩:=h
 refine⟨by omega,by omega,by omega,fun k hk=>?_⟩
 have h6:(l.n.Kinds.any fun k=>(decide (k<(1:Int)))||(decide ((3:Int)<k)))=false:=by simpa using h1
 have:=List.any_eq_false.1 h6 k hk
 simp at this
 omega
theorem HM{l:al}(h:Lb l):sx iq l (fun R=>R=l.n.Kinds∧0≤l.n.Table∧l.n.Table<30∧0<l.n.Kinds.length):=by
 unfold sx iq
 rw [jH (f:=m6) (fun _=>rfl),bj]
 refine⟨_,_,rfl,fun h=>⟨rfl,?_⟩⟩
 simp only [gX,rl]at h
 omega
theorem w5(e:bv)(kinds:List Int)(h:e.Nodes.length≤5000): ∃b,jy e kinds=some b:=by
 unfold jy
 rw [mf e kinds (by omega)]
 exact⟨_,rfl⟩
theorem Kc{l:al}(h:Lb l):sx gC l (fun R=>l.a_.length≤R.length):=by
 unfold sx gC
 have ha:=h.a
 have hb:=h.b
 rw [B8 _ _ (by omega) (by omega),bj]
 obtain⟨b,hb2⟩:=w5 l.n.Cond (l.a_++l.b) h.n.cond
 refine⟨b,l.a_++l.b,?_,fun _=>by simp⟩
 show(jy l.n.Cond (l.a_++l.b)).bind _=_
 rw [hb2];rfl
theorem Gu{l:al}(h:Lb l):sx fC l (fun R=>R=l.a_):=by
 unfold sx fC
 obtain⟨b,hb2⟩:=w5 l.n.Cond l.a_ h.n.cond
 refine⟨b,l.a_,?_,fun _=>rfl⟩
 show(jy l.n.Cond l.a_).bind _=_
 rw [hb2];rfl
theorem HH{l:al}:sx ky l (fun R=>R=l.a_):=⟨true,l.a_,rfl,fun _=>rfl⟩
theorem JK{l:al}:sx ja l (fun R=>R=l.a_):=by
 unfold sx ja
 rw [rk (f:=lA _) (fun _=>rfl),bj]
 exact⟨_,l.a_,rfl,fun _=>rfl⟩
theorem zQ(nx:Bool→al→Option (Bool×al))(l:al)(R:List Int)(ok:Bool)(k:Int)(h:R.length≤100000):eG nx {l with result:=R} ok k=nx ok {l with result:=R++[k]}:=by
 unfold eG
 show(gn R [k]).bind _=_
 rw [bH (by simp;omega)];rfl
theorem Gj{l:al}(gs:List fy): ∀(ok:Bool) (R:List Int),(∀g∈gs,g.Arg.Nodes.length≤5000)→R.length+gs.length≤20000→
  ∃ok' R',cr gs ok {l with result:=R}=some (ok',{l with result:=R' })∧R'.length=R.length+gs.length:=by
 induction gs with
 |nil=>intro ok R _ _;exact⟨ok,R,rfl,rfl⟩
 |cons g tl ih=>
  intro ok R hg hR
  have key: ∀(ok2:Bool) (k:Int),∃ok' R',eG (cr tl) {l with result:=R} ok2 k=some (ok',{l with result:=R' })∧R'.length=R.length+(g::tl).length:=by
   intro ok2 k
   rw [zQ _ _ _ _ _ (by simp at hR;omega)]
   obtain⟨ok',R',h1,h2⟩:=ih ok2 (R++[k]) (fun x hx=>hg x (oO _ hx)) (by simp at hR ⊢;omega)
   exact⟨ok',R',h1,by rw [h2];simp;omega⟩
  unfold cr
  split
  ·exact key _ _
  ·show∃ok' R',(mV g.Arg l.a_).bind _=_∧_
   rw [mf g.Arg l.a_ (by have:=hg g (nf ..);omega),bj]
   split
   ·exact key _ _
   ·split
    ·unfold gJ
     split
     ·exact key _ _
     ·exact key _ _
    ·unfold gJ
     split
     ·exact key _ _
     ·exact key _ _
theorem Gk{l:al}(h:Lb l)(ks:List Int): ∀R:List Int,R.length+ks.length≤5000→ ∃ok R',dy l ks {l with result:=R}=some (ok,{l with result:=R' })∧R'.length≤R.length+ks.length+l.n.Aggs.length∧(ok=true→R'.length=R.length+ks.length+l.n.Aggs.length):=by
 induction ks with
 |nil=>
  intro R hR
  unfold dy
  obtain⟨ok,R',h1,h2⟩:=Gj (l:=l) l.n.Aggs (((decide ((l.n.Keys.length:Int)≤(3:Int)))&&(decide ((l.n.Aggs.length:Int)≤(12:Int))))&&(decide ((0:Int)<(IntKind.i64.wrap ((l.n.Keys.length:Int)+(l.n.Aggs.length:Int)))))) R h.n.args (by have:=h.n.aggs;simp at hR;omega)
  exact⟨ok,R',h1,by rw [h2];simp,fun _=>by rw [h2];simp⟩
 |cons k tl ih=>
  intro R hR
  unfold dy
  split
  ·exact⟨false,R,rfl,by omega,fun h=>by cases h⟩
  ·rename_i hk
   show∃ok R',(gj l.a_ k).bind _=_∧_
   have hk' :vK l.a_ k=false:=by
    unfold vK
    simpa using hk
   rw [HN hk',bj]
   show∃ok R',(gn R [KR l.a_ k]).bind _=_∧_
   rw [bH (by simp at hR ⊢;omega),bj]
   obtain⟨ok,R',h1,h2,h3⟩:=ih (R++[KR l.a_ k]) (by simp at hR ⊢;omega)
   refine⟨ok,R',h1,?_,fun ho=>?_⟩
   ·simp at h2 ⊢;omega
   ·have:=h3 ho;simp at this ⊢;omega
theorem Gl{l:al}(h:Lb l): ∃ok R',ep l=some (ok,{l with result:=R' })∧R'.length≤l.n.Keys.length+l.n.Aggs.length∧(ok=true→R'.length=l.n.Keys.length+l.n.Aggs.length):=by
 unfold ep
 obtain⟨ok,R',h1,h2,h3⟩:=Gk h l.n.Keys [] (by have:=h.n.keys;simpa using this)
 exact⟨ok,R',h1,by simpa using h2,by simpa using h3⟩
theorem HQ{l:al}(h:Lb l):sx ep l (fun R=>l.n.Keys.length≤R.length):=by
 obtain⟨ok,R',h1,h2,h3⟩:=Gl h
 exact⟨ok,R',h1,fun ho=>by have:=h3 ho;omega⟩
theorem wb{k i:Nat}(h:k+i≤100000):IntKind.i64.wrap ((k:Int)+(i:Int))=((k+i:Nat):Int):=by
 rw [eC (by omega) (by omega)];omega
theorem Cw{l:al}(hk:l.n.Keys.length≤5000)(gs:List fy): ∀(i:Nat) (R:List Int),R.length=l.n.Keys.length+(i+gs.length)→R.length≤20000→ ∃R',ff gs i {l with result:=R}=some (true,{l with result:=R' })∧R'.length=R.length:=by
 induction gs with
 |nil=>intro i R _ _;exact⟨R,rfl,rfl⟩
 |cons g tl ih=>
  intro i R hR hb
  unfold ff
  simp only [nT]at hR
  split
  ·show∃R',(gj R (IntKind.i64.wrap ((l.n.Keys.length:Int)+(i:Int)))).bind _=_∧_
   rw [wb (by omega),dJ,kW (by omega),bj]
   simp only [bj]
   obtain⟨R',h1,h2⟩:=ih (i+1) (R.set ((l.n.Keys.length+i:Nat):Int).toNat 4) (by rw [Aa];omega) (by rw [Aa];omega)
   exact⟨R',h1,by rw [h2,Aa]⟩
  ·exact ih (i+1) R (by omega) hb
theorem Ed{l:al}(h:Lb l):sx fb l (fun R=>l.n.Keys.length≤R.length):=by
 unfold sx fb
 obtain⟨ok,R',h1,h2,h3⟩:=Gl h
 have hk:=h.n.keys
 have hg:=h.n.aggs
 rw [h1,bj]
 cases ok with
 |false=>exact⟨false,R',rfl,fun h=>by cases h⟩
 |true=>
  have h4:=h3 rfl
  obtain⟨R2,g1,g2⟩:=Cw (l:=l) hk l.n.Aggs 0 R' (by omega) (by omega)
  exact⟨true,R2,g1,fun _=>by omega⟩
theorem Gq{l:al}(hk:l.n.Keys.length≤5000)(gs:List fy): ∀(i:Nat) (ok:Bool) (R:List Int),l.a_.length=l.n.Keys.length+(i+gs.length)→R.length=l.a_.length→R.length≤20000→ ∃ok' R',bY l gs i ok {l with result:=R}=some (ok',{l with result:=R' })∧R'.length=R.length:=by
 induction gs with
 |nil=>intro i ok R _ _ _;exact⟨ok,R,rfl,rfl⟩
 |cons g tl ih=>
  intro i ok R ha hR hb
  simp only [nT]at ha
  have key: ∀(ok2:Bool) (R2:List Int),R2.length=R.length→ ∃ok' R',bY l tl (i+1) ok2 {l with result:=R2}=some (ok',{l with result:=R' })∧R'.length=R.length:=by
   intro ok2 R2 h2
   obtain⟨ok',R',g1,g2⟩:=ih (i+1) ok2 R2 (by omega) (by omega) (by omega)
   exact⟨ok',R',g1,by omega⟩
  have By: ∀(e3:Int) (x:Bool),∃ok' R',fj l (bY l tl) i g ok {l with result:=R} e3 x=some (ok',{l with result:=R' })∧R'.length=R.length:=by
   intro e3 x
   unfold fj
   split
   ·exact key _ R rfl
   ·split
    ·show∃ok' R',(gj R (IntKind.i64.wrap ((l.n.Keys.length:Int)+(i:Int)))).bind _=_∧_
     rw [wb (by omega),dJ,kW (by omega),bj]
     simp only [bj]
     exact key _ _ (by rw [Aa])
    ·split<;>(unfold gK;split)<;>exact key _ R rfl
  unfold bY
  show∃ok' R',(gj l.a_ (IntKind.i64.wrap ((l.n.Keys.length:Int)+(i:Int)))).bind _=_∧_
  rw [wb (by omega),dJ,kW (by omega),bj]
  split<;>exact By _ _
theorem Gr{l:al}(hk:l.n.Keys.length≤5000)(hg:l.n.Aggs.length≤5000)(ha:l.a_.length=l.n.Keys.length+l.n.Aggs.length)(r:List Int)(hr:r.length=l.a_.length)(ks:List Int): ∀(i:Nat) (ok:Bool),i+ks.length=l.n.Keys.length→ ∃ok' R',ec l r ks i ok=some (ok',{l with result:=R' })∧R'.length=r.length:=by
 induction ks with
 |nil=>
  intro i ok _
  exact Gq hk l.n.Aggs 0 ok r (by omega) hr (by omega)
 |cons k tl ih=>
  intro i ok hi
  simp only [nT]at hi
  unfold ec
  have: ∃t,(if(ok&&(k==(i:Int)))then((gj l.a_ (i:Int)).bind fun e5=>some (e5 !=(4:Int)))else some false)=some t:=by
   split
   ·rw [dJ,kW (by omega)];exact⟨_,rfl⟩
   ·exact⟨_,rfl⟩
  obtain⟨t,ht⟩:=this
  rw [ht,bj]
  exact ih (i+1) t (by omega)
theorem HR{l:al}(h:Lb l)(hA: ∃e,gj l.nodes l.n.A=some e):sx eu l (fun R=>l.n.Keys.length≤R.length):=by
 obtain⟨e,he⟩:=hA
 unfold sx eu
 have hk:=h.n.keys
 have hg:=h.n.aggs
 have ha:=h.a
 rw [he,bj]
 by_cases hc:((((e.Op==(9:Int))&&(decide ((l.n.Keys.length:Int)≤(3:Int))))&&(decide ((l.n.Aggs.length:Int)≤(12:Int))))&&((IntKind.i64.wrap ((l.n.Keys.length:Int)+(l.n.Aggs.length:Int)))==(l.a_.length:Int)))=true
 ·rw [aW (by rw [hc];decide),uL _ (by omega),bj]
  have hl:l.a_.length=l.n.Keys.length+l.n.Aggs.length:=by
   simp only [gX,ss]at hc
   have:=hc.2
   rw [wb (by omega)]at this
   omega
  obtain⟨ok',R',g1,g2⟩:=Gr hk hg hl l.a_ rfl l.n.Keys 0 _ (va _)
  exact⟨ok',R',g1,fun _=>by omega⟩
 ·rw [bq (by rw [Ac]at hc;rw [hc];rfl)]
  exact⟨false,l.result,by cases l;rfl,fun h=>by cases h⟩
theorem Cv{l:al}(es:List bv): ∀R:List Int,(∀e∈es,e.Nodes.length≤5000)→R.length+es.length≤20000→ ∃ok R',ev es {l with result:=R}=some (ok,{l with result:=R' })∧(ok=true→R'.length=R.length+es.length):=by
 induction es with
 |nil=>intro R _ _;exact⟨_,R,rfl,fun _=>rfl⟩
 |cons e tl ih=>
  intro R he hR
  unfold ev
  show∃ok R',(mV e l.a_).bind _=_∧_
  rw [mf e l.a_ (by have:=he e (nf ..);omega),bj]
  split
  ·exact⟨false,R,rfl,fun h=>by cases h⟩
  ·show∃ok R',(gn R [(fO e l.a_).1]).bind _=_∧_
   rw [bH (by simp at hR ⊢;omega),bj]
   obtain⟨ok,R',h1,h2⟩:=ih (R++[(fO e l.a_).1]) (fun x hx=>he x (oO _ hx)) (by simp at hR ⊢;omega)
   exact⟨ok,R',h1,fun ho=>by have:=h2 ho;simp at this ⊢;omega⟩
theorem Ea{l:al}(h:Lb l):sx hU l (fun R=>R.length=l.n.Items.length):=by
 have hi:=h.n.items
 obtain⟨ok,R',h1,h2⟩:=Cv (l:=l) l.n.Items [] h.n.exprs (by simp;omega)
 exact⟨ok,R',h1,by simpa using h2⟩
theorem Fj(nx:Nat→al→Option (Bool×al))(l:al)(R:List Int)(i:Nat)(e k:Int)(h:R.length≤100000):fi nx i {l with result:=R} e k=if((e !=(0:Int))&&(e !=k))then some (false,{l with result:=R})else nx (i+1) {l with result:=R++[k]}:=by
 unfold fi
 split
 ·rfl
 ·show(gn R [k]).bind _=_
  rw [bH (by simp;omega)];rfl
theorem Fi{l:al}(xs:List Int): ∀(i:Nat) (R:List Int),i+xs.length=l.b.length→R.length+xs.length≤20000→ ∃ok R',dx xs i {l with result:=R}=some (ok,{l with result:=R' })∧(ok=true→R'.length=R.length+xs.length):=by
 induction xs with
 |nil=>intro i R _ _;exact⟨true,R,rfl,fun _=>rfl⟩
 |cons a tl ih=>
  intro i R hi hR
  simp only [nT]at hi hR
  have key: ∀e k:Int,∃ok R',fi (dx tl) i {l with result:=R} e k=some (ok,{l with result:=R' })∧(ok=true→R'.length=R.length+(a::tl).length):=by
   intro e k
   rw [Fj _ _ _ _ _ _ (by omega)]
   split
   ·exact⟨false,R,rfl,fun h=>by cases h⟩
   ·obtain⟨ok,R',h1,h2⟩:=ih (i+1) (R++[k]) (by omega) (by simp;omega)
    exact⟨ok,R',h1,fun ho=>by have:=h2 ho;simp at this ⊢;omega⟩
  unfold dx
  show∃ok R',(gj l.b (i:Int)).bind _=_∧_
  rw [dJ,kW (by omega),bj]
  split<;>exact key _ _
theorem Hf{l:al}(h:Lb l):sx ip l (fun R=>R.length=l.a_.length):=by
 unfold sx ip
 have ha:=h.a
 by_cases hl:l.a_.length=l.b.length
 ·rw [aW (by simp [hl])]
  obtain⟨ok,R',h1,h2⟩:=Fi (l:=l) l.a_ 0 [] (by omega) (by simp;omega)
  exact⟨ok,R',h1,by simpa using h2⟩
 ·rw [bq (by simp;omega)]
  exact⟨false,l.result,by cases l;rfl,fun h=>by cases h⟩
def oN(op:Int):al→Unit→Option (Bool×al):=(tg ((mN).getD []) op).getD (fun _ _=>none)
theorem MI{l:al}(h:Lb l)(hA:lO l.n.Op≠0→ ∃e,gj l.nodes l.n.A=some e)(hp:0≤lO l.n.Op):sx (fun l=>oN l.n.Op l ()) l (Hs l.n l.a_ l.b):=by
 have imp: ∀{m:al→Option (Bool×al)} {P:List Int→Prop},sx m l P→(oN l.n.Op l ()=m l)→(∀R,P R→Hs l.n l.a_ l.b R)→sx (fun l=>oN l.n.Op l ()) l (Hs l.n l.a_ l.b):=
  fun⟨ok,R,h1,h2⟩ he hr=>⟨ok,R,by show oN l.n.Op l ()=_;rw [he];exact h1,fun ho=>hr R (h2 ho)⟩
 by_cases h1:l.n.Op=1
 ·exact imp JT (by rw [h1];rfl) (fun R hR=>by
   unfold Hs
   rw [h1]
   exact⟨fun _=>hR,fun h=>absurd h (by decide),fun h=>absurd h (by decide),fun h=>absurd h (by decide),fun h=>absurd h (by decide),fun h=>absurd h (by decide),fun h=>absurd h (by decide)⟩)
 by_cases h2:l.n.Op=2
 ·exact imp (Kc h) (by rw [h2];rfl) (fun R hR=>by simp [Hs,h2];exact hR)
 by_cases h3:l.n.Op=3
 ·exact imp (Gu h) (by rw [h3];rfl) (fun R hR=>by simp [Hs,h3];exact hR)
 by_cases h4:l.n.Op=4
 ·exact imp (HQ h) (by rw [h4];rfl) (fun R hR=>by simp [Hs,h4];exact hR)
 by_cases h5:l.n.Op=5
 ·exact imp (Ea h) (by rw [h5];rfl) (fun R hR=>by simp [Hs,h5];exact hR)
 by_cases h6:l.n.Op=6
 ·exact imp HH (by rw [h6];rfl) (fun R hR=>by simp [Hs,h6];exact hR)
 by_cases h7:l.n.Op=7
 ·exact imp (Hf h) (by rw [h7];rfl) (fun R hR=>by simp [Hs,h7];exact hR)
 by_cases h8:l.n.Op=8
 ·exact imp JK (by rw [h8];rfl) (fun R hR=>by simp [Hs,h8];exact hR)
 by_cases h9:l.n.Op=9
 ·exact imp (HM h) (by rw [h9];rfl) (fun R hR=>by simp [Hs,h9];exact⟨hR.1,hR.2⟩)
 by_cases h10:l.n.Op=10
 ·exact imp (Ed h) (by rw [h10];rfl) (fun R hR=>by simp [Hs,h10];exact hR)
 by_cases h11:l.n.Op=11
 ·exact imp (HR h (hA (by rw [h11];decide))) (by rw [h11];rfl) (fun R hR=>by simp [Hs,h11];exact hR)
 exfalso
 simp [lO,h1,h2,h3,h4,h5,h6,h7,h8,h9,h10,h11]at hp
end Go.Proofs.YtdohlidddcgfjaaGreat

