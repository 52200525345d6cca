import Derived.Test.YtadeokalnbmppaaGreatDoorReQ2
set_option linter.all false
namespace Go.Proofs.YtadeokalnbmppaaGreatDoor
open Go IntKind
def sZ(op:Int):Int:=if op=1\/op=9 then 0 else if op=2\/op=7 then 2 else if op=3\/op=4\/op=5\/op=6\/op=8\/op=10\/op=11 then 1 else -1
def BS(op:Int):yY op=some (sZ op):=by
 by_cases D:op=1
 ·subst D;rfl
 by_cases V:op=2
 ·subst V;rfl
 by_cases Z:op=3
 ·subst Z;rfl
 by_cases h4:op=4
 ·subst h4;rfl
 by_cases h5:op=5
 ·subst h5;rfl
 by_cases h6:op=6
 ·subst h6;rfl
 by_cases h7:op=7
 ·subst h7;rfl
 by_cases h8:op=8
 ·subst h8;rfl
 by_cases h9:op=9
 ·subst h9;rfl
 by_cases h10:op=10
 ·subst h10;rfl
 by_cases h11:op=11
 ·subst h11;rfl
 simp [yY,uH,uG,lM,sZ,D,V,Z,h4,h5,h6,h7,h8,h9,h10,h11]
def D0(v:Int): ∀(l:List Int) (i:Nat),∃j:Int,gw v l i=some j/\((0<=j)↔v∈l)/\(0<=j-> ∃k:Nat,j=((i+k:Nat):Int)/\k<l.length/\l[k]? =some v)/\ -1<=j
 |[],i=>⟨-1,rfl,by simp,by simp,by simp⟩
 |e::tl,i=>by
  unfold gw;by_cases h:v=e
  ·subst h;exact⟨i,by simp,by simp,fun _=>⟨0,by simp,by simp,rfl⟩,by omega⟩
  ·obtain⟨j,D,V,Z,h4⟩:=D0 v tl (i+1);refine⟨j,by rw [aZ (by simpa using h)];exact D,by rw [V];simp [h],fun hj=>?_,h4⟩;obtain⟨k,g1,g2,g3⟩:=Z hj;exact⟨k+1,by rw [g1];congr 1;omega,by simp;omega,by simpa using g3⟩
def zA(l:List Int)(v:Int): ∃j:Int,fN l v=some j/\((0<=j)↔v∈l)/\(0<=j-> ∃k:Nat,j=(k:Int)/\k<l.length/\l[k]? =some v)/\ -1<=j:=by
 obtain⟨j,D,V,Z,h4⟩:=D0 v l 0;exact⟨j,D,V,fun hj=>by obtain⟨k,g1,g2,g3⟩:=Z hj;exact⟨k,by simpa using g1,g2,g3⟩,h4⟩
def sa(l:List Int)(v:Int):ft l v=some (decide (v∈l)):=by
 unfold ft;obtain⟨j,D,V,_⟩:=zA l v;rw [D,bh,BI.2 V]
def D3(s2:List Int): ∀(l:List Int) (i:Nat),i+l.length=s2.length->iK s2 l i=some (decide (l=s2.drop i))
 |[],i,h=>by
  unfold iK;rw [FX (by simp at h;omega)];rfl
 |e::tl,i,h=>by
  have hi:i<s2.length:=by simp at h;omega
  unfold iK;rw [bR,qV hi,bh,yK hi];by_cases he:e=s2[i]
  ·rw [aZ (by simp [he]),D3 s2 tl (i+1) (by simp at h;omega)];congr 1;rw [BI];exact⟨fun h=>by rw [he,h],fun h=>by injection h⟩
  ·rw [bq (by simpa using he),zN];intro h;injection h with D _;exact he D
def tW(a b:List Int):fO a b=some (decide (a=b)):=by
 unfold fO;by_cases h:a.length=b.length
 ·rw [aZ (by simp [h]),D3 b a 0 (by omega),vj]
 ·rw [bq (by simp;omega),zN (fun e=>h (by rw [e]))]
def Po(n:ac)(a b R:List Int):Prop:=
 (n.Op=1->R=n.U'/\0<=n.M'/\n.M'<4/\0<n.U'.length/\ ∀k∈n.U',1<=k/\k<=3)/\(n.Op=9->R=n.U'/\0<=n.M'/\n.M'<30/\0<n.U'.length)/\(n.Op=2->a.length<=R.length)/\(n.Op=3\/n.Op=6\/n.Op=8->R=a)/\
  (n.Op=4\/n.Op=10\/n.Op=11->n.I'.length<=R.length)/\(n.Op=5->R.length=n.N'.length)/\(n.Op=7->R.length=a.length)
structure Lb(l:ap):Prop where
 n:d9 l.n
 a:l.a_.length<=16
 b:l.b.length<=16
def wZ(m:ap->Option (Bool×ap))(l:ap)(P:List Int->Prop):Prop:= ∃ok R,m l=some (ok,{l with B':=R})/\(ok=true->P R)
def SZ{l:ap}:wZ lX l (fun R=>R=l.n.U'/\0<=l.n.M'/\l.n.M'<4/\0<l.n.U'.length/\ ∀k∈l.n.U',1<=k/\k<=3):=by
 unfold wZ lX;rw [iv (f:=qZ) (g:=fun k=>(decide (k<(1:Int)))||(decide ((3:Int)<k))) (fun _=>rfl),bh];refine⟨_,_,rfl,fun h=>⟨rfl,?_⟩⟩;simp only [jJ,vk]at h;obtain⟨⟨⟨⟨D,V⟩,Z⟩,h4⟩,h5⟩:=h;refine⟨by omega,by omega,by omega,fun k hk=>?_⟩;have h6:(l.n.U'.any fun k=>(decide (k<(1:Int)))||(decide ((3:Int)<k)))=false:=by simpa using D
 have:=IR.1 h6 k hk;simp at this;omega
def PQ{l:ap}(h:Lb l):wZ jU l (fun R=>R=l.n.U'/\0<=l.n.M'/\l.n.M'<30/\0<l.n.U'.length):=by
 unfold wZ jU;rw [iv (f:=qz) (fun _=>rfl),bh];refine⟨_,_,rfl,fun h=>⟨rfl,?_⟩⟩;simp only [jJ,vk]at h;omega
def BR(e:bD)(j':List Int)(h:e.u'.length<=30000): ∃b,nC e j'=some b:=by
 unfold nC;rw [mW e j' (by omega)];exact⟨_,rfl⟩
def Tw{l:ap}(h:Lb l):wZ lY l (fun R=>l.a_.length<=R.length):=by
 unfold wZ lY;have ha:=h.a;have K:=h.b;rw [CE _ _ (by omega) (by omega),bh];obtain⟨b,hb2⟩:=BR l.n.f_ (l.a_++l.b) h.n.cond;refine⟨b,l.a_++l.b,?_,fun _=>by simp⟩;show(nC l.n.f_ (l.a_++l.b)).bind _=_;rw [hb2];rfl
def NN{l:ap}(h:Lb l):wZ ke l (fun R=>R=l.a_):=by
 unfold wZ ke;obtain⟨b,hb2⟩:=BR l.n.f_ l.a_ h.n.cond;refine⟨b,l.a_,?_,fun _=>rfl⟩;show(nC l.n.f_ l.a_).bind _=_;rw [hb2];rfl
def PL{l:ap}:wZ nX l (fun R=>R=l.a_):=⟨true,l.a_,rfl,fun _=>rfl⟩
def SL{l:ap}:wZ lW l (fun R=>R=l.a_):=by
 unfold wZ lW;rw [rr (f:=pg _) (fun _=>rfl),bh];exact⟨_,l.a_,rfl,fun _=>rfl⟩
def Fx(nx:Bool->ap->Option (Bool×ap))(l:ap)(R:List Int)(ok:Bool)(k:Int)(h:R.length<=100000):fZ nx {l with B':=R} ok k=nx ok {l with B':=R++[k]}:=by
 unfold fZ;show(nH R [k]).bind _=_;rw [cK (by simp;omega)];rfl
def Nu{l:ap}(gs:List fh): ∀(ok:Bool) (R:List Int),(∀g∈gs,g.N_.u'.length<=30000)->R.length+gs.length<=20000->
  ∃ok' R',cP gs ok {l with B':=R}=some (ok',{l with B':=R' })/\R'.length=R.length+gs.length:=by
 induction gs with
 |nil=>intro ok R _ _;exact⟨ok,R,rfl,rfl⟩
 |cons g tl ih=>
  intro ok R H hR;have key: ∀(ok2:Bool) (k:Int),∃ok' R',fZ (cP tl) {l with B':=R} ok2 k=some (ok',{l with B':=R' })/\R'.length=R.length+(g::tl).length:=by
   intro ok2 k;rw [Fx _ _ _ _ _ (by simp at hR;omega)];obtain⟨ok',R',D,V⟩:=ih ok2 (R++[k]) (fun x I=>H x (pA _ I)) (by simp at hR ⊢;omega);exact⟨ok',R',D,by rw [V];simp;omega⟩
  unfold cP;split
  ·exact key _ _
  ·show∃ok' R',(nm g.N_ l.a_).bind _=_/\_;rw [mW g.N_ l.a_ (by have:=H g (pz ..);omega),bh];split
   ·exact key _ _
   ·split
    ·unfold j4;split
     ·exact key _ _
     ·exact key _ _
    ·unfold j4;split
     ·exact key _ _
     ·exact key _ _
def Nv{l:ap}(h:Lb l)(ks:List Int): ∀R:List Int,R.length+ks.length<=5000-> ∃ok R',fY l ks {l with B':=R}=some (ok,{l with B':=R' })/\R'.length<=R.length+ks.length+l.n.L'.length/\(ok=true->R'.length=R.length+ks.length+l.n.L'.length):=by
 induction ks with
 |nil=>
  intro R hR;unfold fY;obtain⟨ok,R',D,V⟩:=Nu (l:=l) l.n.L' (((decide ((l.n.I'.length:Int)<=(3:Int)))&&(decide ((l.n.L'.length:Int)<=(12:Int))))&&(decide ((0:Int)<(i64.wrap ((l.n.I'.length:Int)+(l.n.L'.length:Int)))))) R h.n.args (by have:=h.n.z_;simp at hR;omega);exact⟨ok,R',D,by rw [V];simp,fun _=>by rw [V];simp⟩
 |cons k tl ih=>
  intro R hR;unfold fY;split
  ·exact⟨false,R,rfl,by omega,fun h=>by cases h⟩
  ·rename_i hk;show∃ok R',(dm l.a_ k).bind _=_/\_;have hk' :u7 l.a_ k=false:=by
    unfold u7;simpa using hk
   rw [HF hk',bh];show∃ok R',(nH R [Gv l.a_ k]).bind _=_/\_;rw [cK (by simp at hR ⊢;omega),bh];obtain⟨ok,R',D,V,Z⟩:=ih (R++[Gv l.a_ k]) (by simp at hR ⊢;omega);refine⟨ok,R',D,?_,fun ho=>?_⟩
   ·simp at V ⊢;omega
   ·have:=Z ho;simp at this ⊢;omega
def Nw{l:ap}(h:Lb l): ∃ok R',gv l=some (ok,{l with B':=R' })/\R'.length<=l.n.I'.length+l.n.L'.length/\(ok=true->R'.length=l.n.I'.length+l.n.L'.length):=by
 unfold gv;obtain⟨ok,R',D,V,Z⟩:=Nv h l.n.I' [] (by have:=h.n.keys;simpa using this);exact⟨ok,R',D,by simpa using V,by simpa using Z⟩
def PU{l:ap}(h:Lb l):wZ gv l (fun R=>l.n.I'.length<=R.length):=by
 obtain⟨ok,R',D,V,Z⟩:=Nw h;exact⟨ok,R',D,fun ho=>by have:=Z ho;omega⟩
def EN{k i:Nat}(h:k+i<=100000):i64.wrap ((k:Int)+(i:Int))=((k+i:Nat):Int):=by
 rw [cJ (by omega) (by omega)];omega
def Iv{l:ap}(hk:l.n.I'.length<=5000)(gs:List fh): ∀(i:Nat) (R:List Int),R.length=l.n.I'.length+(i+gs.length)->R.length<=20000-> ∃R',fQ gs i {l with B':=R}=some (true,{l with B':=R' })/\R'.length=R.length:=by
 induction gs with
 |nil=>intro i R _ _;exact⟨R,rfl,rfl⟩
 |cons g tl ih=>
  intro i R hR K;unfold fQ;simp only [jr]at hR;split
  ·show∃R',(dm R (i64.wrap ((l.n.I'.length:Int)+(i:Int)))).bind _=_/\_;rw [EN (by omega),bR,qV (by omega),bh];simp only [bh];obtain⟨R',D,V⟩:=ih (i+1) (R.set ((l.n.I'.length+i:Nat):Int).toNat 4) (by rw [E1];omega) (by rw [E1];omega);exact⟨R',D,by rw [V,E1]⟩
  ·exact ih (i+1) R (by omega) K
def KJ{l:ap}(h:Lb l):wZ jA l (fun R=>l.n.I'.length<=R.length):=by
 unfold wZ jA;obtain⟨ok,R',D,V,Z⟩:=Nw h;have hk:=h.n.keys;have H:=h.n.z_;rw [D,bh]
 cases ok with
 |false=>exact⟨false,R',rfl,fun h=>by cases h⟩
 |true=>
  have h4:=Z rfl;obtain⟨R2,g1,g2⟩:=Iv (l:=l) hk l.n.L' 0 R' (by omega) (by omega);exact⟨true,R2,g1,fun _=>by omega⟩
def NH{l:ap}(hk:l.n.I'.length<=5000)(gs:List fh): ∀(i:Nat) (ok:Bool) (R:List Int),l.a_.length=l.n.I'.length+(i+gs.length)->R.length=l.a_.length->R.length<=20000-> ∃ok' R',dd l gs i ok {l with B':=R}=some (ok',{l with B':=R' })/\R'.length=R.length:=by
 induction gs with
 |nil=>intro i ok R _ _ _;exact⟨ok,R,rfl,rfl⟩
 |cons g tl ih=>
  intro i ok R ha hR K;simp only [jr]at ha;have key: ∀(ok2:Bool) (R2:List Int),R2.length=R.length-> ∃ok' R',dd l tl (i+1) ok2 {l with B':=R2}=some (ok',{l with B':=R' })/\R'.length=R.length:=by
   intro ok2 R2 V;obtain⟨ok',R',g1,g2⟩:=ih (i+1) ok2 R2 (by omega) (by omega) (by omega);exact⟨ok',R',g1,by omega⟩
  have zf: ∀(e3:Int) (x:Bool),∃ok' R',j5 l (dd l tl) i g ok {l with B':=R} e3 x=some (ok',{l with B':=R' })/\R'.length=R.length:=by
   intro e3 x;unfold j5;split
   ·exact key _ R rfl
   ·split
    ·show∃ok' R',(dm R (i64.wrap ((l.n.I'.length:Int)+(i:Int)))).bind _=_/\_;rw [EN (by omega),bR,qV (by omega),bh];simp only [bh];exact key _ _ (by rw [E1])
    ·split<;>(unfold nD;split)<;>exact key _ R rfl
  unfold dd;show∃ok' R',(dm l.a_ (i64.wrap ((l.n.I'.length:Int)+(i:Int)))).bind _=_/\_;rw [EN (by omega),bR,qV (by omega),bh];split<;>exact zf _ _
def NI{l:ap}(hk:l.n.I'.length<=5000)(H:l.n.L'.length<=5000)(ha:l.a_.length=l.n.I'.length+l.n.L'.length)(r:List Int)(hr:r.length=l.a_.length)(ks:List Int): ∀(i:Nat) (ok:Bool),i+ks.length=l.n.I'.length-> ∃ok' R',iW l r ks i ok=some (ok',{l with B':=R' })/\R'.length=r.length:=by
 induction ks with
 |nil=>
  intro i ok _;exact NH hk l.n.L' 0 ok r (by omega) hr (by omega)
 |cons k tl ih=>
  intro i ok hi;simp only [jr]at hi;unfold iW;have: ∃t,(if(ok&&(k==(i:Int)))then((dm l.a_ (i:Int)).bind fun e5=>some (e5 !=(4:Int)))else some false)=some t:=by
   split
   ·rw [bR,qV (by omega)];exact⟨_,rfl⟩
   ·exact⟨_,rfl⟩
  obtain⟨t,Y⟩:=this;rw [Y,bh];exact ih (i+1) t (by omega)
def PX{l:ap}(h:Lb l)(hA: ∃e,dm l.A' l.n.A=some e):wZ kV l (fun R=>l.n.I'.length<=R.length):=by
 obtain⟨e,he⟩:=hA;unfold wZ kV;have hk:=h.n.keys;have H:=h.n.z_;have ha:=h.a;rw [he,bh];by_cases hc:((((e.Op==(9:Int))&&(decide ((l.n.I'.length:Int)<=(3:Int))))&&(decide ((l.n.L'.length:Int)<=(12:Int))))&&((i64.wrap ((l.n.I'.length:Int)+(l.n.L'.length:Int)))==(l.a_.length:Int)))=true
 ·rw [aZ (by rw [hc];decide),oA _ (by omega),bh];have hl:l.a_.length=l.n.I'.length+l.n.L'.length:=by
   simp only [jJ,vD]at hc;have:=hc.2;rw [EN (by omega)]at this;omega
  obtain⟨ok',R',g1,g2⟩:=NI hk H hl l.a_ rfl l.n.I' 0 _ (oZ _);exact⟨ok',R',g1,fun _=>by omega⟩
 ·rw [bq (by rw [B6]at hc;rw [hc];rfl)];exact⟨false,l.B',by cases l;rfl,fun h=>by cases h⟩
def Iu{l:ap}(es:List bD): ∀R:List Int,(∀e∈es,e.u'.length<=30000)->R.length+es.length<=20000-> ∃ok R',iU es {l with B':=R}=some (ok,{l with B':=R' })/\(ok=true->R'.length=R.length+es.length):=by
 induction es with
 |nil=>intro R _ _;exact⟨_,R,rfl,fun _=>rfl⟩
 |cons e tl ih=>
  intro R he hR;unfold iU;show∃ok R',(nm e l.a_).bind _=_/\_;rw [mW e l.a_ (by have:=he e (pz ..);omega),bh];split
  ·exact⟨false,R,rfl,fun h=>by cases h⟩
  ·show∃ok R',(nH R [(fT e l.a_).1]).bind _=_/\_;rw [cK (by simp at hR ⊢;omega),bh];obtain⟨ok,R',D,V⟩:=ih (R++[(fT e l.a_).1]) (fun x I=>he x (pA _ I)) (by simp at hR ⊢;omega);exact⟨ok,R',D,fun ho=>by have:=V ho;simp at this ⊢;omega⟩
def KG{l:ap}(h:Lb l):wZ mp l (fun R=>R.length=l.n.N'.length):=by
 have hi:=h.n.items;obtain⟨ok,R',D,V⟩:=Iu (l:=l) l.n.N' [] h.n.exprs (by simp;omega);exact⟨ok,R',D,by simpa using V⟩
def Mb(nx:Nat->ap->Option (Bool×ap))(l:ap)(R:List Int)(i:Nat)(e k:Int)(h:R.length<=100000):gU nx i {l with B':=R} e k=if((e !=(0:Int))&&(e !=k))then some (false,{l with B':=R})else nx (i+1) {l with B':=R++[k]}:=by
 unfold gU;split
 ·rfl
 ·show(nH R [k]).bind _=_;rw [cK (by simp;omega)];rfl
def Ma{l:ap}(xs:List Int): ∀(i:Nat) (R:List Int),i+xs.length=l.b.length->R.length+xs.length<=20000-> ∃ok R',d7 xs i {l with B':=R}=some (ok,{l with B':=R' })/\(ok=true->R'.length=R.length+xs.length):=by
 induction xs with
 |nil=>intro i R _ _;exact⟨true,R,rfl,fun _=>rfl⟩
 |cons a tl ih=>
  intro i R hi hR;simp only [jr]at hi hR;have key: ∀e k:Int,∃ok R',gU (d7 tl) i {l with B':=R} e k=some (ok,{l with B':=R' })/\(ok=true->R'.length=R.length+(a::tl).length):=by
   intro e k;rw [Mb _ _ _ _ _ _ (by omega)];split
   ·exact⟨false,R,rfl,fun h=>by cases h⟩
   ·obtain⟨ok,R',D,V⟩:=ih (i+1) (R++[k]) (by omega) (by simp;omega);exact⟨ok,R',D,fun ho=>by have:=V ho;simp at this ⊢;omega⟩
  unfold d7;show∃ok R',(dm l.b (i:Int)).bind _=_/\_;rw [bR,qV (by omega),bh];split<;>exact key _ _
def OT{l:ap}(h:Lb l):wZ kT l (fun R=>R.length=l.a_.length):=by
 unfold wZ kT;have ha:=h.a;by_cases hl:l.a_.length=l.b.length
 ·rw [aZ (by simp [hl])];obtain⟨ok,R',D,V⟩:=Ma (l:=l) l.a_ 0 [] (by omega) (by simp;omega);exact⟨ok,R',D,by simpa using V⟩
 ·rw [bq (by simp;omega)];exact⟨false,l.B',by cases l;rfl,fun h=>by cases h⟩
def vw(op:Int):ap->Unit->Option (Bool×ap):=(jC ((sM).getD []) op).getD (fun _ _=>none)
def Wr{l:ap}(h:Lb l)(hA:sZ l.n.Op≠0-> ∃e,dm l.A' l.n.A=some e)(hp:0<=sZ l.n.Op):wZ (fun l=>vw l.n.Op l ()) l (Po l.n l.a_ l.b):=by
 have imp: ∀{m:ap->Option (Bool×ap)} {P:List Int->Prop},wZ m l P->(vw l.n.Op l ()=m l)->(∀R,P R->Po l.n l.a_ l.b R)->wZ (fun l=>vw l.n.Op l ()) l (Po l.n l.a_ l.b):=
  fun⟨ok,R,D,V⟩ he hr=>⟨ok,R,by show vw l.n.Op l ()=_;rw [he];exact D,fun ho=>hr R (V ho)⟩
 by_cases D:l.n.Op=1
 ·exact imp SZ (by rw [D];rfl) (fun R hR=>by
   unfold Po;rw [D];exact⟨fun _=>hR,fun h=>absurd h (by decide),fun h=>absurd h (by decide),fun h=>absurd h (by decide),fun h=>absurd h (by decide),fun h=>absurd h (by decide),fun h=>absurd h (by decide)⟩)
 by_cases V:l.n.Op=2
 ·exact imp (Tw h) (by rw [V];rfl) (fun R hR=>by simp [Po,V];exact hR)
 by_cases Z:l.n.Op=3
 ·exact imp (NN h) (by rw [Z];rfl) (fun R hR=>by simp [Po,Z];exact hR)
 by_cases h4:l.n.Op=4
 ·exact imp (PU h) (by rw [h4];rfl) (fun R hR=>by simp [Po,h4];exact hR)
 by_cases h5:l.n.Op=5
 ·exact imp (KG h) (by rw [h5];rfl) (fun R hR=>by simp [Po,h5];exact hR)
 by_cases h6:l.n.Op=6
 ·exact imp PL (by rw [h6];rfl) (fun R hR=>by simp [Po,h6];exact hR)
 by_cases h7:l.n.Op=7
 ·exact imp (OT h) (by rw [h7];rfl) (fun R hR=>by simp [Po,h7];exact hR)
 by_cases h8:l.n.Op=8
 ·exact imp SL (by rw [h8];rfl) (fun R hR=>by simp [Po,h8];exact hR)
 by_cases h9:l.n.Op=9
 ·exact imp (PQ h) (by rw [h9];rfl) (fun R hR=>by simp [Po,h9];exact⟨hR.1,hR.2⟩)
 by_cases h10:l.n.Op=10
 ·exact imp (KJ h) (by rw [h10];rfl) (fun R hR=>by simp [Po,h10];exact hR)
 by_cases h11:l.n.Op=11
 ·exact imp (PX h (hA (by rw [h11];decide))) (by rw [h11];rfl) (fun R hR=>by simp [Po,h11];exact hR)
 exfalso;simp [sZ,D,V,Z,h4,h5,h6,h7,h8,h9,h10,h11]at hp
