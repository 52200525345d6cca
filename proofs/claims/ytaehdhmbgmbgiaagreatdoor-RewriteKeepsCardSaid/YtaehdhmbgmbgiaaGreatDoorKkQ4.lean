import Derived.Test.YtaehdhmbgmbgiaaGreatDoorKkQ3
import Derived.Test.YtaehdhmbgmbgiaaGreatDoorKkQ2
import Derived.Test.YtaehdhmbgmbgiaaGreatDoorKkQ1
import Derived.Laws.RangeAny
import Derived.Shelf.Strings.CaseAny
set_option linter.all false
namespace Go.Proofs.YtaehdhmbgmbgiaaGreatDoor
open Go IntKind
def RK:List Int->cK->Prop
 |[],[]=>True
 |k::ks,v::vs=>Pl v/\vW v k/\RK ks vs
 |[],_::_=>False
 |_::_,[]=>False
variable{ks:Nat->List Int}{r:cK}
def RK.len: ∀{ks:List Int} {r:cK},RK ks r->r.length=ks.length
 |[],[],_=>rfl
 |k::ks,v::vs,h=>by rw [jo,jo,h.2.2.len]
 |[],_::_,h=>h.elim
 |_::_,[],h=>h.elim
def RK.pl: ∀{ks:List Int} {r:cK},RK ks r-> ∀v∈r,Pl v
 |[],[],_,v,hv=>by cases hv
 |k::ks,w::vs,h,v,hv=>by
  rcases iW.1 hv with q|q
  ·rw [q];exact h.1
  ·exact h.2.2.pl v q
 |[],_::_,h,_,_=>h.elim
 |_::_,[],h,_,_=>h.elim
variable{x:Int}
def RK.kindR: ∀{ks:List Int} {r:cK},RK ks r->kindR ks r
 |[],[],_=>fun j k h=>by simp at h
 |k::ks,v::vs,h=>fun j x V=>by
  cases j with
  |zero=>
   simp only [Nf,FZ]at V;subst V;exact⟨v,rfl,h.1,h.2.1⟩
  |succ j=>
   rw [VD]at V;exact h.2.2.kindR j x V
 |[],_::_,h=>h.elim
 |_::_,[],h=>h.elim
def RK.rg{ks:List Int}(h:RK ks r):RT r:=fun v hv=>(h.pl v hv).r64
def RK.right{ks:List Int}(h:RK ks r)(hk:ks.length<=16):oE r=true:=by
 unfold oE;rw [iX,nE,mN];exact⟨by rw [h.len];exact hk,fun v hv=>(h.pl v hv).right⟩
def RK.app: ∀{a b:List Int} {x y:cK},RK a x->RK b y->RK (a++b) (x++y)
 |[],_,[],_,_,h=>h
 |k::ks,b,v::vs,y,h,M=>⟨h.1,h.2.1,h.2.2.app M⟩
 |[],_,_::_,_,h,_=>h.elim
 |_::_,_,[],_,h,_=>h.elim
def De: ∀(ks:List Int),RK ks (List.replicate ks.length zV)
 |[]=>trivial
 |k::ks=>⟨.z,.inr rfl,De ks⟩
variable{e:au}{l:aZ}{α:Type}
def RK.map(f:α->ac)(g:α->Int): ∀(l:List α),(∀e∈l,Pl (f e)/\vW (f e) (g e))->RK (l.map g) (l.map f)
 |[],_=>trivial
 |e::t,h=>⟨(h e (md ..)).1,(h e (md ..)).2,RK.map f g t fun x V=>h x (ma _ V)⟩
def RK.at: ∀{ks:List Int} {r:cK},RK ks r-> ∀(j:Nat),j<ks.length->Pl ((r[j]?).getD zV)/\vW ((r[j]?).getD zV) ((ks[j]?).getD 0)
 |[],[],_,j,h=>by simp at h
 |k::ks,v::vs,h,j,hj=>by
  cases j with
  |zero=>exact⟨h.1,h.2.1⟩
  |succ j=>simpa using h.2.2.at j (by simpa using hj)
 |[],_::_,h,_,_=>h.elim
 |_::_,[],h,_,_=>h.elim
def RK.as: ∀{a k:List Int} {r:cK},RK a r->k.length=a.length->(∀(j:Nat) (x z:Int),a[j]? =some x->k[j]? =some z->x=z\/x=0)->RK k r
 |[],[],[],_,_,_=>trivial
 |x::a,z::k,v::vs,h,hl,hk=>by
  refine⟨h.1,?_,h.2.2.as (by simpa using hl) fun j x z I M=>hk (j+1) x z (by simpa using I) (by simpa using M)⟩;have:=hk 0 x z rfl rfl;have M:=h.2.1;unfold vW at M ⊢;omega
 |[],_::_,_,_,hl,_=>by simp at hl
 |_::_,[],_,_,hl,_=>by simp at hl
 |[],[],_::_,h,_,_=>h.elim
 |_::_,_::_,[],h,_,_=>h.elim
def uE(ks:List Int)(l:List cK):Prop:= ∀r∈l,RK ks r
def uE.perm{ks:List Int}{a b:List cK}(h:uE ks a)(hp:a.Perm b):uE ks b:=fun r hr=>h r (hp.mem_iff.2 hr)
def uE.allr{ks:List Int}{l:List cK}(h:uE ks l)(hk:ks.length<=16):uY l=true:=by
 unfold uY;rw [mN];exact fun r hr=>(h r hr).right hk
def uE.small{ks:List Int}{l:List cK}(h:uE ks l)(hk:ks.length<=16)(hl:l.length<=8000):Pa l:=⟨hl,fun r hr=>by rw [(h r hr).len];omega⟩
def uE.rg{ks:List Int}{l:List cK}(h:uE ks l):Jw l:=fun r hr=>(h r hr).rg
structure Jo(e:au):Prop where
 len:e.j'.length<=1000
 rg:Nt e.j'
def Nc(e:au)(r:cK):ac:=(BJ r e.j').1
def vX(e:au)(r:cK):Bool:=(BJ r e.j').2==140
def WT(he:Jo e){ks:List Int}(hk:(eM e ks).2=0)(hr:RK ks r):((BJ r e.j').2=0/\vX e r=false/\Pl (Nc e r)/\vW (Nc e r) (eM e ks).1)\/(BJ r e.j'=(zV,140)/\vX e r=true/\Nc e r=zV/\e.j'.any Rb=true):=by
 rcases Yq e.j' he.len he.rg ks hk r hr.kindR hr.rg hr.len with h|h
 ·exact .inl ⟨h.1,by unfold vX;rw [h.1];rfl,h.2.1,h.2.2⟩
 ·have:BJ r e.j'=(zV,140):=by
   rcases HX (r:=r) he.rg hr.rg with q|q|q
   ·rw [q.1]at h;exact absurd h.1 (by decide)
   ·exact absurd h.1 q.2.1
   ·exact q
  exact .inr ⟨this,by unfold vX;rw [this];rfl,by unfold Nc;rw [this],h.2⟩
def N3(v:ac):Bool:=v.Kind==1&&v.N==1
variable{i:Nat}{n:ai}
def Eu{v:ac}(h:Pl v):Bd v=some (N3 v):=by
 have e:pg true=some (bV true):=rfl;unfold Bd;rw [e,bw];congr 1
 cases h with
 |z=>rfl
 |b b=>cases b<;>rfl
 |i n _=>rfl
 |s s _=>rfl
def pY(e:au)(r:cK):Bool:=N3 (Nc e r)
def Aw{ks:List Int}(h:Ax e ks=true):(eM e ks).2=0:=by
 unfold Ax at h;rw [iX,xq]at h;exact h.1
def SN(he:Jo e){ks:List Int}(hk:(eM e ks).2=0)(hr:RK ks r):vP e r=some (pY e r,if vX e r then 140 else 0):=by
 unfold vP;rw [BH e r (by have:=he.len;omega) he.rg hr.rg,bw];unfold pY;rcases WT he hk hr with q|q
 ·rw [show(BJ r e.j').1=Nc e r from rfl,Eu q.2.2.1,bw,q.1,q.2.1];rfl
 ·rw [q.1,q.2.1,q.2.2.1,Eu .z];rfl
def HR{n:ai}(he:Jo n.J'){ks:List Int}(hk:(eM n.J' ks).2=0): ∀(l out:List cK),uE ks l->out.length+l.length<=1000000->jv n l out=some (if l.any (vX n.J')then([],140)else(out++l.filter (pY n.J'),0))
 |[],out,_,_=>by unfold jv;simp
 |r::t,out,h,hl=>by
  rw [jo]at hl;unfold jv;have hr:=h r (md ..);have J:uE ks t:=fun x V=>h x (ma _ V);rw [SN he hk hr,bw,BW,NR];by_cases hf:vX n.J' r=true
  ·rw [hf];rfl
  ·rw [zW.2 hf];simp only [jM,gT,FY,B6];by_cases hh:pY n.J' r=true
   ·rw [bz hh,bz hh,cF (by simp;omega),bw,HR he hk t _ J (by simp only [lj,FT];omega),mj,Rk]
   ·rw [aR hh,aR hh,HR he hk t _ J (by omega)]
def pT(items:List au)(r:cK):cK:=items.map fun e=>Nc e r
def By(items:List au)(r:cK):Bool:=items.any fun e=>vX e r
def VX(nx:List cK->Option (List cK×Int)){ks:List Int}{r:cK}(hr:RK ks r)(out:List cK)(ho:out.length<=1000000): ∀(items:List au) (y:cK),(∀e∈items,Jo e/\(eM e ks).2=0)->y.length+items.length<=1000000->j7 nx r out items y=if By items r then some ([],140)else nx (out++[y++pT items r])
 |[],y,_,_=>by unfold j7;rw [cF (by simp;omega)];simp [By,pT]
 |e::t,y,h,hl=>by
  rw [jo]at hl;unfold j7;obtain⟨he,hk⟩:=h e (md ..);have J:=fun x V=>h x (ma e V);rw [BH e r (by have:=he.len;omega) he.rg hr.rg,bw];have e1:By (e::t) r=(vX e r||By t r):=rfl;rw [e1];rcases WT he hk hr with q|q
  ·rw [aR (by rw [q.1];decide),cF (by simp;omega),bw,VX nx hr out ho t _ J (by simp only [lj,FT];omega),q.2.1];simp [pT,Nc]
  ·rw [q.1,q.2.1];rfl
def VY{n:ai}{ks:List Int}(hi: ∀e∈n.I',Jo e/\(eM e ks).2=0)(hil:n.I'.length<=100000): ∀(l out:List cK),uE ks l->out.length+l.length<=1000000->i8z n l out=some (if l.any (By n.I')then([],140)else(out++l.map (pT n.I'),0))
 |[],out,_,_=>by unfold i8z;simp
 |r::t,out,h,hl=>by
  rw [jo]at hl;unfold i8z;have hr:=h r (md ..);have J:uE ks t:=fun x V=>h x (ma _ V);rw [VX _ hr out (by omega) n.I' [] hi (by simp;omega),BW];by_cases hf:By n.I' r=true
  ·rw [hf];rfl
  ·rw [zW.2 hf];simp only [jM,gT,B6,kW];rw [VY hi hil t _ J (by simp only [lj,FT];omega)];simp
variable{rows:List (List cK)}
def Vr{g:jx}(hg:Jo g.Arg){ks:List Int}(h:(G4 g ks).2=true){rows:List cK}(hr:uE ks rows)(hl:rows.length<=8000):((Eh g rows).2=0/\Pl (Eh g rows).1/\vW (Eh g rows).1 (G4 g ks).1)\/(Eh g rows=(zV,140)/\Zi g=true):=by
 obtain⟨s1,s2⟩:=Kh g ks;rw [<-s1]at h;rw [<-s2 h];unfold Xu at h ⊢;unfold Eh;have hi: ∀n:Nat,n<=8000->Pl (iV (n:Int))/\vW (iV (n:Int)) 2:=fun n hn=>⟨.i _ (by unfold r64;omega),.inl rfl⟩;by_cases I:g.Tag=1
 ·rw [bz I,bz I];exact .inl ⟨rfl,hi _ hl⟩
 ·rw [aR I]at h ⊢;rw [aR I];have hk:(eM g.Arg ks).2=0:=by
   by_cases M:g.Tag=2
   ·rw [bz M]at h;simpa using h
   ·rw [aR M]at h;by_cases h3:g.Tag=3
    ·rw [bz h3]at h;simp only [iX,xq]at h;exact h.1
    ·rw [aR h3]at h;by_cases h4:g.Tag=4\/g.Tag=5
     ·rw [bz h4]at h;simpa using h
     ·rw [aR h4]at h;cases h
  have H:Tm g.Arg.j' rows=false:=by
   unfold Tm;rw [FP];intro r hm;rcases WT hg hk (hr r hm)with q|q
   ·rw [q.1];decide
   ·rw [q.1];decide
  have hvs: ∀v∈Nb g.Arg.j' rows,Pl v/\v.Kind=(eM g.Arg ks).1:=by
   intro v hv;refine⟨QI hg.rg hr.rg v hv,?_⟩;unfold Nb at hv;obtain⟨r,hm,he⟩:=List.mem_filterMap.1 hv;split at he
   ·rename_i hc;injection he with he;rcases WT hg hk (hr r hm)with q|q
    ·rw [<-he];exact q.2.2.2.resolve_right hc.2
    ·rw [q.1]at hc;exact absurd hc.1 (by decide)
   ·cases he
  have hlen:=WS g.Arg.j' rows;have ho:Si g.Tag (Nb g.Arg.j' rows)=false:=by
   unfold Si;by_cases h3:g.Tag=3
   ·rw [aR (by omega),bz h3]at h;simp only [iX,xq,xv]at h;rw [h3];simp only [Ko,Al];rw [FP];intro v hv;have hkv:=(hvs v hv).2;have hne:v.Kind≠0:=by
     unfold Nb at hv;obtain⟨r,hm,he⟩:=List.mem_filterMap.1 hv;split at he
     ·rename_i hc;injection he with he;rw [<-he];exact hc.2
     ·cases he
    simp only [yD,ne_eq,Classical.not_not];omega
   ·have:(g.Tag==3)=false:=by simpa using h3
    rw [this];rfl
  rw [H,ho];simp only [Bool.or_self,jM,gT];by_cases hf:ST g.Arg.j' rows=true
  ·rw [bz hf];refine .inr ⟨rfl,?_⟩;unfold Zi;split
   ·rfl
   ·unfold ST at hf;obtain⟨r,hm,hq⟩:=xI.1 hf;rcases WT hg hk (hr r hm)with q|q
    ·rw [q.1]at hq;cases hq
    ·unfold Gb;rw [q.2.2.2,Cj]
     cases hn:g.Arg.j' with
     |nil=>have:=q.2.2.2;rw [hn]at this;cases this
     |cons x t=>rfl
  ·rw [aR hf];unfold ag0;rw [aR (by decide)];by_cases M:g.Tag=2
   ·rw [bz M,bz M];exact .inl ⟨rfl,hi _ (by omega)⟩
   ·rw [aR M,aR M];by_cases h3:g.Tag=3
    ·rw [bz h3,bz h3];unfold agy;split
     ·exact .inl ⟨rfl,.z,.inr rfl⟩
     ·by_cases hs:r64 (Nm (Nb g.Arg.j' rows))
      ·rw [bz hs];exact .inl ⟨rfl,.i _ hs,.inl rfl⟩
      ·rw [aR hs];exact .inr ⟨rfl,by unfold Zi;rw [bz h3]⟩
    ·rw [aR h3,aR h3];have h45:g.Tag=4\/g.Tag=5:=by
      rw [aR M,aR h3]at h;by_cases h4:g.Tag=4\/g.Tag=5
      ·exact h4
      ·rw [aR h4]at h;cases h
     rw [bz h45];refine .inl ⟨rfl,?_⟩;by_cases hz:Nb g.Arg.j' rows=[]
     ·rw [hz];exact⟨.z,.inr rfl⟩
     ·have:=hvs _ (abw g.Tag _ hz);exact⟨this.1,.inl this.2⟩
def RR(aggs:List jx)(g:k6):cK:=g.Key++aggs.map fun a=>(Eh a g.Rows).1
def Ql(aggs:List jx)(g:k6):Bool:=aggs.any fun a=>(Eh a g.Rows).2==140
def GOK(aggs:List jx)(g:k6):Prop:= ∀a∈aggs,qb a g.Rows=some (Eh a g.Rows)/\((Eh a g.Rows).2=0\/Eh a g.Rows=(zV,140))
def aan(nx:List cK->Option (List cK×Int))(g:k6)(out:List cK)(ho:out.length<=1000000): ∀(aggs:List jx) (x:cK),GOK aggs g->x.length+aggs.length<=1000000->lP nx g out aggs x=if Ql aggs g then some ([],140)else nx (out++[x++aggs.map fun a=>(Eh a g.Rows).1])
 |[],x,_,_=>by unfold lP;rw [cF (by simp;omega)];simp [Ql]
 |a::t,x,h,hl=>by
  rw [jo]at hl;unfold lP;obtain⟨I,h3⟩:=h a (md ..);have J:GOK t g:=fun x V=>h x (ma a V);have e1:Ql (a::t) g=((Eh a g.Rows).2==140||Ql t g):=rfl;rw [I,bw,e1];rcases h3 with q|q
  ·rw [aR (by rw [q];decide),cF (by simp;omega),bw,aan nx g out ho t _ J (by simp only [lj,FT];omega),q];simp
  ·rw [q];rfl
def YZ(r:cK)(h:r.length<=1000):dH r=some r:=Ik r (by omega)
def aao{n:ai}(ha:n.M'.length<=100000): ∀(gs:List k6) (out:List cK),(∀g∈gs,GOK n.M' g/\g.Key.length<=1000)->out.length+gs.length<=1000000->iU n gs out=some (if gs.any (Ql n.M')then([],140)else(out++gs.map (RR n.M'),0))
 |[],out,_,_=>by unfold iU;simp
 |g::t,out,h,hl=>by
  rw [jo]at hl;unfold iU;obtain⟨I,M⟩:=h g (md ..);have J:=fun x V=>h x (ma g V);rw [YZ _ M,bw,aan _ g out (by omega) n.M' g.Key I (by omega),BW];by_cases hf:Ql n.M' g=true
  ·rw [hf];rfl
  ·rw [zW.2 hf];simp only [jM,gT,B6];rw [aao ha t _ J (by simp only [lj,FT];omega)];simp [RR]
def Ry{r:cK}: ∀{c:List Int} (out:cK),(∀e∈c,0<=e/\e<(r.length:Int))->out.length+c.length<=1000->qk r c out=some (out++c.map (atR r))
 |[],out,_,_=>by unfold qk;simp
 |e::t,out,h,hl=>by
  rw [jo]at hl;unfold qk;have he:=h e (md ..);rw [Qi he.1 he.2,bw,cF (by simp;omega),bw,Ry _ (fun x V=>h x (ma _ V)) (by simp only [lj,FT];omega)];simp
def Zq{c:List Int}(h:sw r c=true):jz c r=c.map (atR r):=by
 unfold sw at h;rw [iX,nE,mN]at h;have:sj r c=some ([]++c.map (atR r)):=Ry [] (fun e he=>by have:=h.2 e he;simpa using this) (by simp;omega);unfold jz;rw [this];rfl
def RK.key{ks:List Int}(h:RK ks r): ∀c:List Int,(∀e∈c,0<=e/\e<(ks.length:Int))->RK (c.map (LV ks)) (c.map (atR r)):=fun c hc=>
 RK.map (atR r) (LV ks) c fun e he=>by
  obtain⟨I,M⟩:=hc e he;exact h.at e.toNat (by omega)
def gP(c:List Int)(l:List cK):List k6:=if c=[]/\yd c l=[]then [⟨[],[]⟩]else yd c l
structure NN(n:ai)(ks:List Int):Prop where
 cols: ∀c∈n.Q',0<=c/\c<(ks.length:Int)
 ags: ∀g∈n.M',Jo g.Arg/\(G4 g ks).2=true
 len:ks.length<=16
 keys:n.Q'.length<=16
 naggs:n.M'.length<=5000
def PX{ks:List Int}(h:NN n ks){l:List cK}(hr:uE ks l):EG l n.Q'=true:=by
 unfold EG;simp only [iX,nE,mN];refine⟨⟨h.keys,fun e he=>(h.cols e he).1⟩,fun r hm=>?_⟩;unfold sw;simp only [iX,nE,mN];refine⟨h.keys,fun e he=>?_⟩;have:=(hr r hm).len;have:=h.cols e he;omega
def agv{g:jx}{ks:List Int}(h:(G4 g ks).2=true):g.Tag=1\/g.Tag=2\/g.Tag=3\/g.Tag=4\/g.Tag=5:=by
 rw [<-(Kh g ks).1]at h;unfold Xu at h;by_cases I:g.Tag=1
 ·exact .inl I
 ·by_cases M:g.Tag=2
  ·exact .inr (.inl M)
  ·by_cases h3:g.Tag=3
   ·exact .inr (.inr (.inl h3))
   ·by_cases h4:g.Tag=4\/g.Tag=5
    ·exact .inr (.inr (.inr h4))
    ·rw [aR I,aR M,aR h3,aR h4]at h;cases h
def ain{ks:List Int}(h:NN n ks){key:cK}{rows:List cK}(hr:uE ks rows)(hl:rows.length<=8000):GOK n.M' ⟨key,rows⟩:=by
 intro a ha;obtain⟨I,M⟩:=h.ags a ha;refine⟨Ef a (by have:=I.len;omega) I.rg (agv M) hr.rg (by show rows.length<=90000;omega),?_⟩;rcases Vr I M hr hl with q|q
 ·exact .inl q.1
 ·exact .inr q.1
def agB{ks:List Int}(h:NN n ks){key:cK}{rows:List cK}(hr:uE ks rows)(hl:rows.length<=8000)(hk:RK (n.Q'.map (LV ks)) key):RK (n.Q'.map (LV ks)++n.M'.map fun g=>(G4 g ks).1) (RR n.M' ⟨key,rows⟩):=by
 refine hk.app (RK.map _ _ _ fun a ha=>?_);obtain⟨I,M⟩:=h.ags a ha;rcases Vr I M hr hl with q|q
 ·exact q.2
 ·show Pl (Eh a rows).1/\vW (Eh a rows).1 _;rw [q.1];exact⟨.z,.inr rfl⟩
def Mb{ks:List Int}(h:NN n ks){l:List cK}(hr:uE ks l)(hl:l.length<=8000): ∀g∈gP n.Q' l,∃key rows,g=⟨key,rows⟩/\uE ks rows/\rows.length<=8000/\RK (n.Q'.map (LV ks)) key:=by
 intro g hg;unfold gP at hg;split at hg
 ·rename_i hc;have hc1:=hc.1;simp only [mf]at hg;subst hg;refine⟨[],[],rfl,(fun r hr=>by cases hr),by simp,?_⟩;rw [hc1];trivial
 ·unfold yd at hg;obtain⟨k,hk,e⟩:=rL.1 hg;subst e;refine⟨_,_,rfl,?_,?_,?_⟩
  ·intro r hm;rw [(jb eZ _).mem_iff]at hm;exact hr r (A4.1 hm).1
  ·rw [zy];have:=Es (fun r=>decide (jz n.Q' r=k)) l;omega
  ·rw [yu,(jb eZ _).mem_iff]at hk;obtain⟨r,hm,e⟩:=rL.1 hk;have hoc:=Dy (PX h hr) hm;rw [<-e,Zq hoc];exact(hr r hm).key n.Q' h.cols
def aat(c:List Int)(l:List cK)(hl:l.length<=8000):(gP c l).length<=8000:=by
 unfold gP;split
 ·simp
 ·unfold yd;rw [Am];have:=OT (ot (l.map (jz c)));rw [zy,Am]at this;omega
def Ag(n:ai)(l:List cK):List cK×Int:=if(gP n.Q' l).any (Ql n.M')then([],140)else((gP n.Q' l).map (RR n.M'),0)
def aap{ks:List Int}(h:NN n ks){l:List cK}(hr:uE ks l)(hl:l.length<=8000)(ob:fO)(hA:cO ob.rows n.A=some l):mH ob n=some (Ag n l):=by
 unfold mH;rw [hA,bw,Nr (hr.small h.len hl) (hr.allr h.len) (PX h hr),bw];rw [aR (by show¬((0:Int) !=0)=true;decide)];have hgs: ∀g∈gP n.Q' l,GOK n.M' g/\g.Key.length<=1000:=by
  intro g hg;obtain⟨key,rows,e,p1,p2,p3⟩:=Mb h hr hl g hg;subst e;refine⟨ain h p1 p2,?_⟩;have:=p3.len;have hk:=h.keys;rw [Am]at this;show key.length<=1000;omega
 have main:iU n (gP n.Q' l) []=some (Ag n l):=by
  rw [aao (by have:=h.naggs;omega) _ [] hgs (by have:=aat n.Q' l hl;simp only [ug];omega)];rfl
 rw [<-main];unfold pH gP;by_cases hc:n.Q'=[]/\yd n.Q' l=[]
 ·rw [bz (by rw [hc.2,hc.1];rfl),bz hc]
 ·rw [aR,aR hc];intro hh;simp only [iX,xq]at hh;exact hc ⟨Ao (by omega),Ao (by omega)⟩
def aaq{ks:List Int}(h:NN n ks){l:List cK}(hr:uE ks l)(hl:l.length<=8000):uE (n.Q'.map (LV ks)++n.M'.map fun g=>(G4 g ks).1) (Ag n l).1/\(Ag n l).1.length<=8000/\((Ag n l).2=0\/Ag n l=([],140)/\n.M'.any Zi=true):=by
 unfold Ag;by_cases hf:(gP n.Q' l).any (Ql n.M')=true
 ·rw [bz hf];refine⟨(fun r hr=>by cases hr),by simp,.inr ⟨rfl,?_⟩⟩;obtain⟨g,hg,hfg⟩:=xI.1 hf;obtain⟨key,rows,e,p1,p2,p3⟩:=Mb h hr hl g hg;subst e;unfold Ql at hfg;obtain⟨a,ha,hq⟩:=xI.1 hfg;obtain⟨I,M⟩:=h.ags a ha;rcases Vr I M p1 p2 with q|q
  ·rw [q.1]at hq;cases hq
  ·exact xI.2 ⟨a,ha,q.2⟩
 ·rw [aR hf];refine⟨?_,by rw [Am];exact aat _ _ hl,.inl rfl⟩;intro r hm;obtain⟨g,hg,e⟩:=rL.1 hm;obtain⟨key,rows,e2,p1,p2,p3⟩:=Mb h hr hl g hg;subst e2;rw [<-e];exact agB h p1 p2 p3
def pW(e:au)(b:List cK)(x:cK):List cK:=(b.map fun y=>x++y).filter (pY e)
def Ch(e:au)(b:List cK)(x:cK):Bool:=b.any fun y=>pY e (x++y)
def GL(e:au)(b:List cK)(x:cK):Bool:=b.any fun y=>vX e (x++y)
def zG(e:au)(b:List cK)(w:Nat)(left:Bool)(x:cK):List cK:=if left&& !Ch e b x then [x++List.replicate w zV]else []
def OC(e:au)(b:List cK)(x:cK):(pW e b x).length<=b.length:=by
 unfold pW;have:=Es (pY e) (b.map fun y=>x++y);rw [Am]at this;exact this
def IX{α β:Type}(f:α->List β)(m:Nat)(h: ∀x,(f x).length<=m): ∀l:List α,(l.flatMap f).length<=l.length*m
 |[]=>by simp
 |x::t=>by
  rw [Hg,lj,jo,vg,Nat.one_mul];have:=IX f m h t;have:=h x;omega
def abL(n:Int)(h0:0<=n)(h:n<=68719476736):j3 n=some []:=by
 unfold j3 lu;rw [aR (by simp;omega)];have e:i64.wrap (n-i64.wrap ((0:Int)-0))=n:=by
  rw [cB (n:=(0:Int)-0) (by omega) (by omega),cB (by omega) (by omega)];omega
 rw [e];by_cases hp:0<n
 ·rw [bz (by simpa using hp)];unfold gt0 rQ;rw [bz hp];simp only [bw];rw [bz ⟨h0,h⟩];simp only [bw];rw [show df (List.replicate n.toNat (⟨0,0,0,[]⟩:ac)) 0 0=some []from by unfold df;rw [bz (by simp;omega)];simp];rfl
 ·rw [aR (by simpa using hp)];rfl
def MW(a b:cK)(ha:a.length<=8000)(H:b.length<=8000):fi [a,b]=some (a++b):=by
 unfold fi;simp only [iy];rw [cB (n:=(0:Int)+(a.length:Int)) (by omega) (by omega),aR (by simp),cB (by omega) (by omega),aR (by simp;omega),abL _ (by omega) (by omega)];simp only [bw,iw];rw [cF (by simp;omega)];simp only [bw,kW];rw [cF (by omega)];rfl
abbrev JS:=Option Nat×(List cK×List Bool×Int×List cK)
def AL(n:ai):Int×cK->JS->Option (Bool×JS):=B4 (fun x s=>kF n x s.1 s.2.1 s.2.2.1 s.2.2.2)
def ach(p q:List α)(w v:α):(p++w::q).set p.length v=p++v::q:=by
 induction p with
 |nil=>rfl
 |cons x t ih=>simp [ih]
def Wl(p q:List α)(w:α):cO (p++w::q) (p.length:Int)=some w:=by
 rw [aam];simp
def Ly{n:ai}(he:Jo n.J'){ka kb:List Int}(hk:(eM n.J' (ka++kb)).2=0)(hka:ka.length<=16)(hkb:kb.length<=16)(nx:Nat->JS->Option JS){x:cK}(V:RK ka x): ∀(bs xs:List cK) (pre:List Bool) (m:Bool) (post:List Bool),uE kb bs->xs.length+bs.length<=1000000->
  if GL n.J' bs x then∃q:List cK×List Bool,jh (AL n) nx pre.length x bs (none,(xs,pre++m::post,0,[]))=some (some 0,(q.1,q.2,140,[]))
  else jh (AL n) nx pre.length x bs (none,(xs,pre++m::post,0,[]))=nx (pre.length+1) (none,(xs++pW n.J' bs x,pre++(m||Ch n.J' bs x)::post,0,[]))
 |[],xs,pre,m,post,_,_=>by
  have:GL n.J' [] x=false:=rfl;rw [this,aR (by decide)];unfold jh;simp [pW,Ch]
 |y::t,xs,pre,m,post,H,hl=>by
  rw [jo]at hl;have hy:=H y (md ..);have J:uE kb t:=fun z hz=>H z (ma _ hz);have hxy:RK (ka++kb) (x++y):=V.app hy;have hlx:=V.len;have hly:=hy.len;have e1:GL n.J' (y::t) x=(vX n.J' (x++y)||GL n.J' t x):=rfl;have e2:pW n.J' (y::t) x=(if pY n.J' (x++y)=true then(x++y)::pW n.J' t x else pW n.J' t x):=by
   unfold pW;rw [va,NR]
  have e3:Ch n.J' (y::t) x=(pY n.J' (x++y)||Ch n.J' t x):=rfl;have step:jh (AL n) nx pre.length x (y::t) (none,(xs,pre++m::post,0,[]))=(kF n ((pre.length:Int),x++y) xs (pre++m::post) 0 []).bind fun r=>if(!r.1.isNone)=true then some r else jh (AL n) nx pre.length x t r:=by
   conv=>lhs;unfold jh
   rw [MW x y (by omega) (by omega),bw];unfold AL B4;simp only []
   cases kF n ((pre.length:Int),x++y) xs (pre++m::post) 0 []with
   |none=>rfl
   |some r=>rfl
  have hbody:kF n ((pre.length:Int),x++y) xs (pre++m::post) 0 []=some (if vX n.J' (x++y)then(some 0,(xs,pre++m::post,140,[]))else if pY n.J' (x++y)then(none,(xs++[x++y],pre++true::post,0,[]))else(none,(xs,pre++m::post,0,[]))):=by
   unfold kF;rw [SN he hk hxy,bw];by_cases hf:vX n.J' (x++y)=true
   ·rw [hf];rfl
   ·rw [zW.2 hf];simp only [jM,gT,FY];by_cases hh:pY n.J' (x++y)=true
    ·rw [bz hh,bz hh,Wl,bw,zn,ach,bw,cF (by simp;omega),bw]
    ·rw [aR hh,aR hh]
  rw [e1,step,hbody,bw];by_cases hf:vX n.J' (x++y)=true
  ·rw [hf];simp only [hM,Bool.true_or];exact⟨(xs,pre++m::post),rfl⟩
  ·rw [zW.2 hf];simp only [jM,gT,B6];by_cases hh:pY n.J' (x++y)=true
   ·rw [bz hh];simp only [Option.isNone_none,rM,jM,gT];have ih:=Ly he hk hka hkb nx V t (xs++[x++y]) pre true post J (by simp only [lj,FT];omega);rw [e2,bz hh,e3,hh];simpa using ih
   ·rw [aR hh];simp only [Option.isNone_none,rM,jM,gT];have ih:=Ly he hk hka hkb nx V t xs pre m post J (by omega);rw [e2,aR hh,e3,zW.2 hh,B6];exact ih
def R6{n:ai}(he:Jo n.J'){ka kb:List Int}(hk:(eM n.J' (ka++kb)).2=0)(hka:ka.length<=16)(hkb:kb.length<=16){b:List cK}(H:uE kb b): ∀(a xs:List cK) (pre:List Bool),uE ka a->xs.length+a.length*b.length+b.length<=1000000->
  if a.any (GL n.J' b)then∃q:List cK×List Bool,fK b (AL n) a pre.length (none,(xs,pre++List.replicate a.length false,0,[]))=some (some 0,(q.1,q.2,140,[]))
  else fK b (AL n) a pre.length (none,(xs,pre++List.replicate a.length false,0,[]))=some (none,(xs++a.flatMap (pW n.J' b),pre++a.map (Ch n.J' b),0,[]))
 |[],xs,pre,_,_=>by
  rw [List.any_nil,aR (by decide)];unfold fK;simp
 |x::t,xs,pre,ha,hl=>by
  rw [jo,vg,Nat.one_mul]at hl;have V:=ha x (md ..);have J:uE ka t:=fun z hz=>ha z (ma _ hz);have M:=Ly he hk hka hkb (fK b (AL n) t) V b xs pre false (List.replicate t.length false) H (by omega);have er:List.replicate (x::t).length false=false::List.replicate t.length false:=rfl;rw [er,BW];unfold fK;by_cases hf:GL n.J' b x=true
  ·rw [hf]at M ⊢;simpa using M
  ·rw [zW.2 hf]at M ⊢;simp only [jM,gT,B6]at M ⊢;have ih:=R6 he hk hka hkb H t (xs++pW n.J' b x) (pre++[Ch n.J' b x]) J (by have:=OC n.J' b x;simp only [lj];omega);rw [M];simp only [lj,FT,mj,Rk]at ih ⊢;rw [Hg,va];exact ih
def Wg{ob:fO}{n:ai}{w:Nat}(hw:w<=16)(hB:cO ob.width n.B=some (w:Int))(e:au)(b:List cK)(st:JS)(u:Unit): ∀(t:List cK) (pre:List Bool) (out:List cK),(∀x∈t,x.length<=16)->st.2.2.1=pre++t.map (Ch e b)->out.length+t.length<=1000000->kE ob n (st,u) t pre.length out=some (out++t.flatMap (zG e b w n.Left),0)
 |[],pre,out,_,_,_=>by unfold kE;simp
 |x::t,pre,out,V,hs,hl=>by
  rw [jo]at hl;unfold kE;have hxl:=V x (md ..);have J:=fun z hz=>V z (ma x hz);rw [va]at hs;have hi:cO st.2.2.1 (pre.length:Int)=some (Ch e b x):=by rw [hs,Wl]
  have ih:=Wg hw hB e b st u t (pre++[Ch e b x]);rw [lj,FT]at ih;have hs2:st.2.2.1=pre++[Ch e b x]++t.map (Ch e b):=by rw [hs];simp
  rw [Hg];have ec:(if n.Left=true then((cO st.2.2.1 (pre.length:Int)).bind fun e4=>some (!e4))else some false)=some (n.Left&& !Ch e b x):=by
   rw [hi];cases n.Left<;>rfl
  show((if n.Left=true then((cO st.2.2.1 (pre.length:Int)).bind fun e4=>some (!e4))else some false).bind fun q=>_)=_;rw [ec,bw];unfold zG;by_cases hc:(n.Left&& !Ch e b x)=true
  ·rw [bz hc,bz hc,hB,bw];have hz:rQ (w:Int) (⟨0,0,0,[]⟩:ac)=some (List.replicate w zV):=by
    unfold rQ;rw [bz (by omega)];rfl
   rw [hz,bw,MW x _ (by omega) (by simp;omega),bw,cF (by simp;omega),bw,ih _ J hs2 (by simp only [lj,FT];omega),mj];rfl
  ·rw [aR hc,aR hc,ih _ J hs2 (by omega),kW];rfl
def GH(n:ai)(a b:List cK)(w:Nat):List cK×Int:=
 if 40000<a.length*b.length then([],3)else if a.any (GL n.J' b)then([],140)else(a.flatMap (pW n.J' b)++a.flatMap (zG n.J' b w n.Left),0)
structure XJ(n:ai)(ka kb:List Int):Prop where
 cond:Jo n.J'
 kind:(eM n.J' (ka++kb)).2=0
 ka:ka.length<=16
 kb:kb.length<=16
def Z2{p q:Nat}(hp:p<=8000)(hq:q<=8000):decide ((40000:Int)<(i64.wrap ((p:Int)*(q:Int))))=decide (40000<p*q):=by
 have h:p*q<=8000*8000:=NP hp hq;rw [<-Int.natCast_mul,wR (by omega) (by omega),Rf];omega
def acJ{ka kb:List Int}(h:XJ n ka kb){a b:List cK}(ha:uE ka a)(H:uE kb b)(hal:a.length<=8000)(hbl:b.length<=8000)(ob:fO)(hA:cO ob.rows n.A=some a)(hB:cO ob.rows n.B=some b)(hW:cO ob.width n.B=some (kb.length:Int)):nw ob n=some (GH n a b kb.length):=by
 unfold nw GH;rw [hA,hB,bw,bw,Z2 hal hbl];by_cases hm:40000<a.length*b.length
 ·rw [bz (by simpa using hm),bz hm]
 ·rw [aR (by simpa using hm),aR hm];have hz:rQ (a.length:Int) false=some (List.replicate a.length false):=by
   unfold rQ;rw [bz (by omega)];rfl
  have hp:BL a b=some (fun _=>p8 a b):=rfl;rw [hz,bw,hp,bw];have hit:(itU (fun(Sg:Type)=>p8 (Sg:=Sg) a b)) JS (AL n) (none,(([]:List cK),List.replicate a.length false,(0:Int),[]))=(fK b (AL n) a 0 (none,(([]:List cK),List.replicate a.length false,(0:Int),[]))).map fun r=>(r,()):=rfl;have hp1:=R6 h.cond h.kind h.ka h.kb H a [] [] ha (by simp only [ug];omega);show((itU (fun(Sg:Type)=>p8 (Sg:=Sg) a b)) JS (AL n) (none,(([]:List cK),List.replicate a.length false,(0:Int),[]))).bind _=_;rw [hit];by_cases hf:a.any (GL n.J' b)=true
  ·rw [bz hf]at hp1 ⊢;obtain⟨q,hq⟩:=hp1;have hq2:fK b (AL n) a 0 (none,(([]:List cK),List.replicate a.length false,(0:Int),[]))=some (some 0,(q.1,q.2,140,[])):=hq;rw [hq2];rfl
  ·rw [aR hf]at hp1 ⊢;have hq2:fK b (AL n) a 0 (none,(([]:List cK),List.replicate a.length false,(0:Int),[]))=some (none,(a.flatMap (pW n.J' b),a.map (Ch n.J' b),0,[])):=hp1;rw [hq2];have hlen:=IX (pW n.J' b) b.length (OC n.J' b) a;have:=Wg (ob:=ob) (n:=n) h.kb hW n.J' b (none,(a.flatMap (pW n.J' b),a.map (Ch n.J' b),0,[])) () a [] (a.flatMap (pW n.J' b)) (fun x V=>by rw [(ha x V).len];exact h.ka) rfl (by omega);exact this
def Qd{ka kb:List Int}{a b:List cK}(ha:uE ka a)(H:uE kb b):uE (ka++kb) (a.flatMap (pW n.J' b)):=by
 intro r hr;obtain⟨x,V,hr⟩:=List.mem_flatMap.1 hr;unfold pW at hr;obtain⟨y,hy,e⟩:=rL.1 (A4.1 hr).1;rw [<-e];exact(ha x V).app (H y hy)
def Qe{ka kb:List Int}{a b:List cK}(ha:uE ka a):uE (ka++kb) (a.flatMap (zG n.J' b kb.length n.Left)):=by
 intro r hr;obtain⟨x,V,hr⟩:=List.mem_flatMap.1 hr;unfold zG at hr;split at hr
 ·rw [mf.1 hr];exact(ha x V).app (De kb)
 ·cases hr
def KI(h:e.j'.any Rb=true):Gb e=true:=by
 unfold Gb;rw [h,Cj]
 cases hn:e.j' with
 |nil=>rw [hn]at h;cases h
 |cons x t=>rfl
def acK{ka kb:List Int}(h:XJ n ka kb){a b:List cK}(ha:uE ka a)(H:uE kb b):uE (ka++kb) (GH n a b kb.length).1/\((GH n a b kb.length).2=0\/GH n a b kb.length=([],3)\/GH n a b kb.length=([],140)/\Gb n.J'=true):=by
 unfold GH;by_cases hm:40000<a.length*b.length
 ·rw [bz hm];exact⟨(fun r hr=>by cases hr),.inr (.inl rfl)⟩
 ·rw [aR hm];by_cases hf:a.any (GL n.J' b)=true
  ·rw [bz hf];refine⟨(fun r hr=>by cases hr),.inr (.inr ⟨rfl,?_⟩)⟩;obtain⟨x,V,hq⟩:=xI.1 hf;unfold GL at hq;obtain⟨y,hy,hq⟩:=xI.1 hq;rcases WT h.cond h.kind ((ha x V).app (H y hy))with q|q
   ·rw [q.2.1]at hq;cases hq
   ·exact KI q.2.2.2
  ·rw [aR hf];refine⟨fun r hr=>?_,.inl rfl⟩;rcases qR.1 hr with q|q
   ·exact Qd ha H r q
   ·exact Qe ha r q
variable{sz:Nat->Nat}
def Uu(hS:im l)(hr:ci l=true)(K:xo l sz ks){p:Nat}(hp:p<l.j'.length): ∃d,nu l (p:Int)=some (d,0)/\o6 d=some (ks p,0):=by
 obtain⟨_,_,ob,j,r3,r4⟩:=sk hS;obtain⟨hL,hj⟩:=r4 hr;rw [hr]at r3;have hle:=hL.le;have hb:JK l (A2 ob.first) (Q8 ob.v'):=fun j hj=>Mj hL.inv hle hj;obtain⟨N0,hf⟩:=hL.inv.at hp;have I:=N0.pos;have M:=N0.le;have H:((p+1-A2 ob.first p:Nat):Int)=(p:Int)+1-(A2 ob.first p:Int):=by omega
 have hfi:cO ob.first (p:Int)=some ((p+1-A2 ob.first p:Nat):Int):=by rw [cG,hf,H]
 have hpart:nu l (p:Int)=some (my l (p+1-A2 ob.first p) p,0):=by
  unfold nu;rw [r3];simp only [bw,rM,jM,gT];rw [aR (by simp;omega),hfi];simp only [bw];rw [MK hS hle hp (by omega) ((l.j'.take (p+1)).drop (p+1-A2 ob.first p)) (p+1-A2 ob.first p) jl _ rfl (by simp;omega) (w9 (by simp;omega)) (by simp)];rfl
 refine⟨_,hpart,?_⟩;have hpr:=Bt hb hle hp M I;have hps:=s8 hS (p+1-A2 ob.first p) p;obtain⟨sz',ks',K'⟩:=jt hps hpr;have hk:=(Su hps K' (Lx hb hle hp M)).1;have hlen:=uu (l:=l) (e:=p+1-A2 ob.first p) hp;rw [K'.v',<-hk,hlen];have hsame:=KJ (l:=l) (d:=l) (e:=0) (m:=l.j'.length) K.all hb (kG _) (by omega) (by omega) (by omega) (fun j hj n hn=>by
  obtain⟨m,F⟩:=K.all j hj;have hm:n=m:=by rw [F.node]at hn;injection hn with hn;exact hn.symm
  subst hm;rw [u9,wq K F hj];exact F.node) p hp
 have e:p+1-A2 ob.first p+(p+1-(p+1-A2 ob.first p)-1)=p:=by omega
 simp only [e];have:=hsame.2;rw [u9]at this;rw [this]
structure lZ(n:ai):Prop where
 small:cI n
 cond:Jo n.J'
 items: ∀e∈n.I',Jo e
 args: ∀g∈n.M',Jo g.Arg
def Ex(base:da)(n:ai):List cK:=(base.Tables[n.Table.toNat]?).getD []
def v7(n:ai)(base:da)(a b:List cK)(w:Nat):List cK×Int:=
 if n.Op=1 then(Ex base n,0)
 else if n.Op=2 then GH n a b w
 else if n.Op=3 then(if a.any (vX n.J')then([],140)else(a.filter (pY n.J'),0))
 else if n.Op=4 then Ag n a
 else if n.Op=5 then(if a.any (By n.I')then([],140)else(a.map (pT n.I'),0))
 else if n.Op=6 then(sP (ot a),0)
 else if n.Op=7 then(a++b,0)
 else(Vf n.U' (zr (O3 n.R') a),0)
def Fp(n:ai)(q:List cK×Int):List cK×Int:=if q.2≠0 then([],q.2)else if 8000<q.1.length then([],3)else(if n.Op=8 then q.1 else ot q.1,0)
def ie(n:ai)(base:da)(a b:List cK)(w:Nat):List cK×Int:=Fp n (v7 n base a b w)
def abe{limit:Int}{l:List cK}(h:r∈Vf limit l):r∈l:=by
 unfold Vf at h;split at h
 ·exact F3 h
 ·exact h
def PI(base:da)(n:ai)(k:List Int):Prop:=n.Op=1->n.Table.toNat<base.Tables.length/\uE k (Ex base n)/\(Ex base n).length<=12
def T0(h:e∈n.I')(hu:Gb e=true):Nl n=true:=by
 unfold Nl;rw [xI.2 ⟨e,h,hu⟩];simp
variable{base:da}
def V4{ka kb k:List Int}{a b:List cK}(hn:lZ n)(hop:JP n.Op=true)(hk:bB n ka kb=some (k,true))(hka:ka.length<=16)(hkb:kb.length<=16)(hsc:PI base n k)(ha:uE ka a)(H:uE kb b)(hal:a.length<=8000):
  uE k (v7 n base a b kb.length).1/\((v7 n base a b kb.length).2=0\/(v7 n base a b kb.length).2=3\/((v7 n base a b kb.length).2=140/\Nl n=true)):=by
 unfold v7;rcases uL hop with o|o|o|o|o|o|o|o
 ·rw [bz o];exact⟨(hsc o).2.1,.inl rfl⟩
 ·rw [aR (by omega),bz o];obtain⟨e,J⟩:=V6 o hk;subst e;have hj:XJ n ka kb:=⟨hn.cond,Aw J,hka,hkb⟩;obtain⟨p1,p2⟩:=acK hj ha H;refine⟨p1,?_⟩;rcases p2 with q|q|q
  ·exact .inl q
  ·rw [q];exact .inr (.inl rfl)
  ·rw [q.1];exact .inr (.inr ⟨rfl,by unfold Nl;rw [q.2];rfl⟩)
 ·rw [aR (by omega),aR (by omega),bz o];obtain⟨e,J⟩:=Ow o hk;subst e;by_cases hf:a.any (vX n.J')=true
  ·rw [bz hf];refine⟨(fun r hr=>by cases hr),.inr (.inr ⟨rfl,?_⟩)⟩;obtain⟨r,hr,hq⟩:=xI.1 hf;rcases WT hn.cond (Aw J) (ha r hr)with q|q
   ·rw [q.2.1]at hq;cases hq
   ·unfold Nl;rw [KI q.2.2.2];rfl
  ·rw [aR hf];exact⟨fun r hr=>ha r (A4.1 hr).1,.inl rfl⟩
 ·rw [aR (by omega),aR (by omega),aR (by omega),bz o];obtain⟨p1,p2,p3,p4⟩:=LL hn.small o hk;subst p3;have hg:NN n ka:=⟨p1,fun g hg=>⟨hn.args g hg,p2 g hg⟩,hka,by omega,hn.small.aggs⟩;obtain⟨q1,_,q3⟩:=aaq hg ha hal;refine⟨q1,?_⟩;rcases q3 with q|q
  ·exact .inl q
  ·rw [q.1];exact .inr (.inr ⟨rfl,by unfold Nl;rw [q.2];simp⟩)
 ·rw [aR (by omega),aR (by omega),aR (by omega),aR (by omega),bz o];obtain⟨p1,p2⟩:=LK hn.small o hk;subst p2;by_cases hf:a.any (By n.I')=true
  ·rw [bz hf];refine⟨(fun r hr=>by cases hr),.inr (.inr ⟨rfl,?_⟩)⟩;obtain⟨r,hr,hq⟩:=xI.1 hf;unfold By at hq;obtain⟨e,he,hq⟩:=xI.1 hq;rcases WT (hn.items e he) (p1 e he) (ha r hr)with q|q
   ·rw [q.2.1]at hq;cases hq
   ·exact T0 he (KI q.2.2.2)
  ·rw [aR hf];refine⟨?_,.inl rfl⟩;intro x V;obtain⟨r,hr,e⟩:=rL.1 V;rw [<-e];refine RK.map _ _ _ fun e he=>?_;rcases WT (hn.items e he) (p1 e he) (ha r hr)with q|q
   ·exact q.2.2
   ·rw [q.2.2.1];exact⟨.z,.inr rfl⟩
 ·rw [aR (by omega),aR (by omega),aR (by omega),aR (by omega),aR (by omega),bz o];have e:=Sj o hk;subst e;exact⟨fun r hr=>ha r ((jb eZ a).mem_iff.1 ((yu _ _).1 hr)),.inl rfl⟩
 ·rw [aR (by omega),aR (by omega),aR (by omega),aR (by omega),aR (by omega),aR (by omega),bz o];obtain⟨p1,p2,p3⟩:=ZZ (by omega) o hk;refine⟨?_,.inl rfl⟩;intro r hr;rcases qR.1 hr with q|q
  ·refine(ha r q).as p2 fun j x z I M=>?_;have hj:j<kb.length:=by
    have:=qS.1 I;obtain⟨h,_⟩:=this;omega
   exact(p3 j x kb[j] z I (qg hj) M).1
  ·refine(H r q).as (by omega) fun j y z I M=>?_;have hj:j<ka.length:=by
    have:=qS.1 I;obtain⟨h,_⟩:=this;omega
   exact(p3 j ka[j] y z (qg hj) I M).2
 ·rw [aR (by omega),aR (by omega),aR (by omega),aR (by omega),aR (by omega),aR (by omega),aR (by omega)];obtain⟨p1,_⟩:=V5 hn.small o hk;subst p1;exact⟨fun r hr=>ha r ((jb _ a).mem_iff.1 (abe hr)),.inl rfl⟩
def W0{ka kb k:List Int}{a b:List cK}(hn:lZ n)(hop:JP n.Op=true)(hk:bB n ka kb=some (k,true))(hka:ka.length<=16)(hkb:kb.length<=16)(hsc:PI base n k)(ha:uE ka a)(H:uE kb b)(hal:a.length<=8000):
  uE k (ie n base a b kb.length).1/\(ie n base a b kb.length).1.length<=8000/\((ie n base a b kb.length).2=0\/ie n base a b kb.length=([],3)\/(ie n base a b kb.length=([],140)/\Nl n=true)):=by
 obtain⟨p1,p2⟩:=V4 hn hop hk hka hkb hsc ha H hal;unfold ie Fp;by_cases h0:(v7 n base a b kb.length).2=0
 ·rw [aR (by simpa using h0)];by_cases hl:8000<(v7 n base a b kb.length).1.length
  ·rw [bz hl];exact⟨(fun r hr=>by cases hr),by simp,.inr (.inl rfl)⟩
  ·rw [aR hl];by_cases h8:n.Op=8
   ·rw [bz h8];exact⟨p1,by show(v7 n base a b kb.length).1.length<=8000;omega,.inl rfl⟩
   ·rw [aR h8];exact⟨p1.perm (jb _ _).symm,by show(ot _).length<=8000;rw [zy];omega,.inl rfl⟩
 ·rw [bz h0];refine⟨(fun r hr=>by cases hr),by simp,?_⟩;rcases p2 with q|q|q
  ·exact absurd q h0
  ·rw [q];exact .inr (.inl rfl)
  ·rw [q.1];exact .inr (.inr ⟨rfl,q.2⟩)
def uC{α:Type}(l:List (List α))(i:Int):List α:=if i<0 then []else(l[i.toNat]?).getD []
def EX(ks:Nat->List Int)(i:Int):Nat:=(if i<0 then []else ks i.toNat).length
def iA(base:da)(ks:Nat->List Int):List ai->List (List cK)->List (List cK)×Int
 |[],rows=>(rows,0)
 |n::t,rows=>if(ie n base (uC rows n.A) (uC rows n.B) (EX ks n.B)).2≠0 then([],(ie n base (uC rows n.A) (uC rows n.B) (EX ks n.B)).2)else iA base ks t (rows++[(ie n base (uC rows n.A) (uC rows n.B) (EX ks n.B)).1])
def CU(rows:List (List cK)):List cK:=(rows[rows.length-1]?).getD []
def Ee(r:List (List cK)×Int):List cK×Int:=if r.2≠0 then([],r.2)else(CU r.1,0)
def qj(l:aZ)(base:da)(ks:Nat->List Int):List cK×Int:=Ee (iA base ks l.j' [])
structure NM(ks:Nat->List Int)(rows:List (List cK))(i:Nat):Prop where
 len:rows.length=i
 ok: ∀j,j<i->uE (ks j) ((rows[j]?).getD [])/\((rows[j]?).getD []).length<=8000
def Wk{i:Int}(h:0<=i)(M:i<(rows.length:Int)):cO rows i=some (uC rows i):=by
 obtain⟨k,hk⟩:=NW h;subst hk;have hk:k<rows.length:=by omega
 unfold uC;rw [cG,aR (by omega)];simp [hk]
def NM.at(h:NM ks rows i)(V:x= -1\/0<=x/\x<(i:Int)):uE (if x<0 then []else ks x.toNat) (uC rows x)/\(uC rows x).length<=8000:=by
 unfold uC;rcases V with q|q
 ·rw [bz (by omega),bz (by omega)];exact⟨(fun r hr=>by cases hr),by simp⟩
 ·rw [aR (by omega),aR (by omega)];exact h.ok x.toNat (by omega)
structure Dd(l:aZ)(base:da)(sz:Nat->Nat)(ks:Nat->List Int):Prop where
 known:xo l sz ks
 right:ci l=true
 nodes: ∀n∈l.j',lZ n
 scan: ∀(j:Nat) (n:ai),cO l.j' (j:Int)=some n->PI base n (ks j)
def Dd.small(aj:Dd l base sz ks):im l:=fun n hn=>(aj.nodes n hn).small
structure afX(l:aZ)(base:da)(ks:Nat->List Int)(rows:List (List cK))(j:Nat)(n:ai)(ka kb:List Int):Prop where
 g:lZ n
 op:JP n.Op=true
 v':bB n ka kb=some (ks j,true)
 k16:(ks j).length<=16
 ka16:ka.length<=16
 kb16:kb.length<=16
 scan:PI base n (ks j)
 a:uE ka (uC rows n.A)
 al:(uC rows n.A).length<=8000
 b:uE kb (uC rows n.B)
 bl:(uC rows n.B).length<=8000
 w:EX ks n.B=kb.length
 ia:n.Op≠1->cO rows n.A=some (uC rows n.A)
 ib:n.Op=2\/n.Op=7->cO rows n.B=some (uC rows n.B)/\0<=n.B/\n.B<(j:Int)
def afi(aj:Dd l base sz ks){j:Nat}(hj:j<l.j'.length)(h1:NM ks rows j): ∃n,cO l.j' (j:Int)=some n/\afX l base ks rows j n (if n.A<0 then []else ks n.A.toNat) (if n.B<0 then []else ks n.B.toNat):=by
 obtain⟨n,F⟩:=aj.known.all j hj;have hmem:n∈l.j':=by
  have:=F.node;rw [cG]at this;exact FS this
 obtain⟨pA,pB⟩:=qm F;have h16: ∀x:Int,(x= -1\/0<=x/\x<(j:Int))->(if x<0 then([]:List Int)else ks x.toNat).length<=16:=by
  intro x V;rcases V with q|q
  ·rw [bz (by omega)];simp
  ·rw [aR (by omega)];obtain⟨m,Fm⟩:=aj.known.all x.toNat (by omega);exact Fm.len
 refine⟨n,F.node,⟨aj.nodes n hmem,F.op,F.v',F.len,h16 _ pA,h16 _ pB,aj.scan j n F.node,(h1.at pA).1,(h1.at pA).2,(h1.at pB).1,(h1.at pB).2,rfl,?_,?_⟩⟩
 ·intro I;have:0<=n.A/\n.A<(rows.length:Int):=by
   rw [h1.len];by_cases h27:n.Op=2\/n.Op=7
   ·have:=F.bi h27;omega
   ·have:=F.un I (fun h=>h27 (.inl h)) (fun h=>h27 (.inr h));omega
  exact Wk this.1 this.2
 ·intro h27;have:=F.bi h27;have H:0<=n.B/\n.B<(j:Int):=by omega
  exact⟨Wk H.1 (by rw [h1.len];exact H.2),H⟩
abbrev alg:=fO->ai->Option ((List cK×Int)×fO)
def LO:List (Int×alg):=dO (dO (dO (dO (dO (dO (dO (dO ([]:List (Int×(fO->ai->Option (((List (List ac))×Int)×fO)))) (1:Int) (fun(mc:fO) (mx:ai)=>(oZ mc mx).map fun mr=>(mr,mc))) (2:Int) (fun(mc:fO) (mx:ai)=>(nw mc mx).map fun mr=>(mr,mc))) (3:Int) (fun(mc:fO) (mx:ai)=>(nk mc mx).map fun mr=>(mr,mc))) (4:Int) (fun(mc:fO) (mx:ai)=>(mH mc mx).map fun mr=>(mr,mc))) (5:Int) (fun(mc:fO) (mx:ai)=>(mG mc mx).map fun mr=>(mr,mc))) (6:Int) (fun(mc:fO) (mx:ai)=>(lQ mc mx).map fun mr=>(mr,mc))) (7:Int) (fun(mc:fO) (mx:ai)=>(ov mc mx).map fun mr=>(mr,mc))) (8:Int) (fun(mc:fO) (mx:ai)=>(ow mc mx).map fun mr=>(mr,mc))
def aiU{ks:List Int}(hr:RK ks r)(h: ∀o∈n.R',0<=o.X'/\o.X'<(ks.length:Int)):okO n.R' r=true:=by
 unfold okO;rw [mN];intro o ho;have:=h o ho;rw [<-hr.len]at this;simp [this.1,this.2]
def Yi{j:Nat}{ka kb:List Int}(h2:afX l base ks rows j n ka kb)(ob:fO)(hB:ob.Base=base)(hR:ob.rows=rows)(hW: ∀i:Int,0<=i->i<(j:Int)->cO ob.width i=some (EX ks i:Int)):((m5 LO n.Op).getD fun _ _=>none) ob n=some (v7 n base (uC rows n.A) (uC rows n.B) kb.length,ob):=by
 unfold LO;rw [Z5];have hk:=h2.v';unfold v7;have hsm:=h2.a.small h2.ka16 h2.al;rcases uL h2.op with o|o|o|o|o|o|o|o
 ·rw [bz o,bz o];obtain⟨_,t1,t2⟩:=PY o hk;obtain⟨s1,s2,s3⟩:=h2.scan o;show(oZ ob n).map _=_;unfold oZ;have:cO base.Tables n.Table=some (Ex base n):=by
   unfold Ex;rw [mE n.Table.toNat (by omega),qg s1];rfl
  rw [hB,this];rfl
 ·rw [aR (by omega),bz o,aR (by omega),bz o];obtain⟨e,J⟩:=V6 o hk;have hj:XJ n ka kb:=⟨h2.g.cond,Aw J,h2.ka16,h2.kb16⟩;obtain⟨b1,b2,b3⟩:=h2.ib (.inl o);show(nw ob n).map _=_;rw [acJ hj h2.a h2.b h2.al h2.bl ob (by rw [hR];exact h2.ia (by omega)) (by rw [hR];exact b1) (by rw [hW n.B b2 b3,h2.w])];rfl
 ·rw [aR (by omega),aR (by omega),bz o,aR (by omega),aR (by omega),bz o];obtain⟨e,J⟩:=Ow o hk;show(nk ob n).map _=_;unfold nk;rw [hR,h2.ia (by omega),bw,HR h2.g.cond (Aw J) _ [] h2.a (by have:=h2.al;simp only [ug];omega)];rfl
 ·rw [aR (by omega),aR (by omega),aR (by omega),bz o,aR (by omega),aR (by omega),aR (by omega),bz o];obtain⟨p1,p2,p3,p4⟩:=LL h2.g.small o hk;have hg:NN n ka:=⟨p1,fun g hg=>⟨h2.g.args g hg,p2 g hg⟩,h2.ka16,by omega,h2.g.small.aggs⟩;show(mH ob n).map _=_;rw [aap hg h2.a h2.al ob (by rw [hR];exact h2.ia (by omega))];rfl
 ·rw [aR (by omega),aR (by omega),aR (by omega),aR (by omega),bz o,aR (by omega),aR (by omega),aR (by omega),aR (by omega),bz o];obtain⟨p1,p2⟩:=LK h2.g.small o hk;show(mG ob n).map _=_;unfold mG;rw [hR,h2.ia (by omega),bw,VY (fun e he=>⟨h2.g.items e he,p1 e he⟩) (by have:=h2.g.small.items;omega) _ [] h2.a (by have:=h2.al;simp only [ug];omega)];rfl
 ·rw [aR (by omega),aR (by omega),aR (by omega),aR (by omega),aR (by omega),bz o,aR (by omega),aR (by omega),aR (by omega),aR (by omega),aR (by omega),bz o];show(lQ ob n).map _=_;unfold lQ;rw [hR,h2.ia (by omega),bw,Jv hsm,h2.a.allr h2.ka16];rfl
 ·rw [aR (by omega),aR (by omega),aR (by omega),aR (by omega),aR (by omega),aR (by omega),bz o,aR (by omega),aR (by omega),aR (by omega),aR (by omega),aR (by omega),aR (by omega),bz o];obtain⟨b1,b2,b3⟩:=h2.ib (.inr o);show(ov ob n).map _=_;unfold ov;rw [hR,h2.ia (by omega),bw,b1,bw,Vz _ _ h2.al h2.bl];rfl
 ·rw [aR (by omega),aR (by omega),aR (by omega),aR (by omega),aR (by omega),aR (by omega),aR (by omega),bz o,aR (by omega),aR (by omega),aR (by omega),aR (by omega),aR (by omega),aR (by omega),aR (by omega)];obtain⟨p1,p2⟩:=V5 h2.g.small o hk;show(ow ob n).map _=_;unfold ow;have ho:Vu n.R' (uC rows n.A):=⟨fun r hr=>(h2.a r hr).right h2.ka16,fun r hr=>aiU (h2.a r hr) p2⟩;rw [hR,h2.ia (by omega),bw,H1 ho (by have:=h2.al;omega)];rfl
def NM.next(h:NM ks rows i){r:List cK}(hr:uE (ks i) r)(hl:r.length<=8000):NM ks (rows++[r]) (i+1):=by
 have hlen:=h.len;refine⟨by simp [hlen],fun j hj=>?_⟩;by_cases hji:j<i
 ·rw [EU (by omega)];exact h.ok j hji
 ·have:j=i:=by omega
  subst this;rw [we (by omega),hlen];simpa using ⟨hr,hl⟩
def Li{l:aZ}{base:da}{sz:Nat->Nat}{ks:Nat->List Int}(aj:Dd l base sz ks): ∀(tl:List ai) (i:Nat) (rows:List (List cK)),l.j'.drop i=tl->i<=l.j'.length->NM ks rows i->((iA base ks tl rows).2=0->NM ks (iA base ks tl rows).1 l.j'.length)/\((iA base ks tl rows).2=0\/(iA base ks tl rows).2=3\/((iA base ks tl rows).2=140/\l.j'.any Nl=true))
 |[],i,rows,hd,hi,h1=>by
  have I:=xg hd;have M:i=l.j'.length:=by omega
  unfold iA;exact⟨fun _=>M▸h1,.inl rfl⟩
 |n::t,i,rows,hd,hi,h1=>by
  obtain⟨I,M,h3⟩:=kp hd;obtain⟨n',hn',h2⟩:=afi aj M h1;rw [I]at hn';injection hn' with hn';subst hn';obtain⟨c1,c2,c3⟩:=W0 (base:=base) h2.g h2.op h2.v' h2.ka16 h2.kb16 h2.scan h2.a h2.b h2.al;unfold iA;rw [h2.w];by_cases h0:(ie n base (uC rows n.A) (uC rows n.B) (if n.B<0 then []else ks n.B.toNat).length).2=0
  ·rw [aR (by simp [h0])];exact Li aj t (i+1) _ h3 M (h1.next c1 c2)
  ·rw [bz h0];refine⟨fun h=>absurd h h0,?_⟩;rcases c3 with q|q|q
   ·exact absurd q h0
   ·rw [q];exact .inr (.inl rfl)
   ·rw [q.1];refine .inr (.inr ⟨rfl,xI.2 ⟨n,?_,q.2⟩⟩);rw [cG]at I;exact FS I
def SZ:List ac->List Int->Bool
 |v::t,k::ks=>(j9 v&&(v.Kind==0||v.Kind==k))&&SZ t ks
 |[],_=>true
 |_::_,[]=>false
def aaz(v':List Int)(r:cK):Bool:=decide (r.length=v'.length)&&SZ r v'
def SY(rows:List cK)(v':List Int):Bool:=decide (rows.length<=12)&&rows.all (aaz v')
def Mf(v':List Int)(nx:Option Bool)(r:cK)(hl:r.length=v'.length): ∀(n i:Nat),r.length-i=n->i<=r.length->p9 v' nx (r.drop i) i=if SZ (r.drop i) (v'.drop i)then nx else some false
 |0,i,h,hi=>by
  rw [Hi (by omega)];unfold p9 SZ;rfl
 |n+1,i,h,hi=>by
  have hlt:i<r.length:=by omega
  have hlk:i<v'.length:=by omega
  rw [zX hlt,zX hlk];unfold p9 SZ;rw [Mf v' nx r hl n (i+1) (by omega) (by omega),rX,bw,cG,qg hlk];simp only [bw];have e:(r[i].Kind==0)= !(r[i].Kind !=0):=by rw [bne,Bool.not_not]
  have e2:(r[i].Kind==v'[i])= !(r[i].Kind !=v'[i]):=by rw [bne,Bool.not_not]
  rw [e,e2];cases j9 r[i]<;>cases (r[i].Kind !=0)<;>cases (r[i].Kind !=v'[i])<;>simp
def alu(a b:Nat):((a:Int) !=(b:Int))= !decide (a=b):=by
 rw [ES];simp;omega
def Mg(v':List Int): ∀rows:List cK,qa v' rows=some (rows.all (aaz v'))
 |[]=>rfl
 |r::t=>by
  unfold qa;rw [alu,xr,aaz,Mg v' t];by_cases h:r.length=v'.length
  ·have:=Mf v' (some (t.all (aaz v'))) r h r.length 0 rfl (nh _);rw [xu,xu]at this;rw [Cl h,this];cases SZ r v'<;>simp
  ·rw [El h];simp
def Mq(rows:List cK)(v':List Int):xh rows v'=some (SY rows v'):=by
 unfold xh SY;rw [Mg];by_cases h:rows.length<=12
 ·rw [aR (by rw [nE];omega),Cl h];rfl
 ·rw [bz (by rw [nE];omega),El h];rfl
def sX(ks:Nat->List Int)(i:Nat):List Int:=(List.range i).map fun j=>((ks j).length:Int)
def XQ(x:Int)(h:0<=x)(M:x<(i:Int)):cO (sX ks i) x=some (EX ks x:Int):=by
 obtain⟨k,hk⟩:=NW h;subst hk;have hk:k<i:=by omega
 unfold sX EX;rw [cG,aR (by omega)];simp [hk]
def Rt(ks:Nat->List Int)(i:Nat):sX ks i++[((ks i).length:Int)]=sX ks (i+1):=by
 unfold sX;rw [List.range_succ,Cn];rfl
def acF(h:1<=rows.length)(M:rows.length<=100000):cO rows (i64.wrap ((rows.length:Int)-1))=some (CU rows):=by
 rw [wR (by omega) (by omega),show(rows.length:Int)-1=((rows.length-1:Nat):Int)from by omega,cG];unfold CU;rw [qg (by omega)];rfl
def OW{l:aZ}{base:da}{sz:Nat->Nat}{ks:Nat->List Int}(aj:Dd l base sz ks): ∀(tl:List ai) (i:Nat) (rows:List (List cK)),l.j'.drop i=tl->i<=l.j'.length->NM ks rows i->jw l tl i ⟨base,rows,sX ks i⟩=some (Ee (iA base ks tl rows))
 |[],i,rows,hd,hi,h1=>by
  have I:=xg hd;have M:i=l.j'.length:=by omega
  have hlen:=h1.len;have hle:=aj.known.le;have hpos:=aj.known.pos;unfold jw iA Ee;rw [acF (rows:=rows) (by omega) (by omega)];rfl
 |n::t,i,rows,hd,hi,h1=>by
  obtain⟨I,M,h3⟩:=kp hd;obtain⟨n',hn',h2⟩:=afi aj M h1;rw [I]at hn';injection hn' with hn';subst hn';have hlen:=h1.len;have hle:=aj.known.le;obtain⟨c1,c2,c3⟩:=W0 (base:=base) h2.g h2.op h2.v' h2.ka16 h2.kb16 h2.scan h2.a h2.b h2.al;obtain⟨d1,d2⟩:=V4 (base:=base) h2.g h2.op h2.v' h2.ka16 h2.kb16 h2.scan h2.a h2.b h2.al;have hcode:=Yi h2 ⟨base,rows,sX ks i⟩ rfl rfl (fun x h M=>XQ x h M);unfold LO at hcode;have hcode2:((m5 LO n.Op).bind fun y=>y ⟨base,rows,sX ks i⟩ n)=some (v7 n base (uC rows n.A) (uC rows n.B) (if n.B<0 then []else ks n.B.toNat).length,⟨base,rows,sX ks i⟩):=by rw [<-hcode];show _=(m5 LO n.Op).getD (fun _ _=>none) ⟨base,rows,sX ks i⟩ n;cases m5 LO n.Op<;>rfl
  unfold LO at hcode2;unfold jw iA;first|rw [hcode,bw,h2.w]|rw [hcode2,bw,h2.w]
  simp only [];unfold ie at c1 c2 c3 ⊢;generalize v7 n base (uC rows n.A) (uC rows n.B) (if n.B<0 then []else ks n.B.toNat).length=q at c1 c2 c3 d1 d2 ⊢;have hk2: ∀(rs:List cK) (q' :List cK×Int),uE (ks i) rs->rs.length<=8000->sM l (jw l t) i (q',⟨base,rows,sX ks i⟩) rs=some (Ee (iA base ks t (rows++[rs]))):=by
   intro rs q' hrs hrl;unfold sM;obtain⟨d,hd1,hd2⟩:=Uu aj.small aj.right aj.known M;rw [hd1,bw,hd2,bw,cF (by simp;omega),bw,cF (by simp [sX];omega),bw];show jw l t (i+1) ⟨base,rows++[rs],sX ks i++[((ks i).length:Int)]⟩=_;rw [Rt];exact OW aj t (i+1) _ h3 M (h1.next hrs hrl)
  by_cases h0:q.2=0
  ·by_cases hl:8000<q.1.length
   ·have e:Fp n q=([],3):=by unfold Fp;rw [aR (by simp [h0]),bz hl]
    rw [bz (by simp only [h0,iX,xq,nE,true_and];omega),e];rfl
   ·have e:Fp n q=(if n.Op=8 then q.1 else ot q.1,0):=by unfold Fp;rw [aR (by simp [h0]),aR hl]
    rw [aR (by simp only [h0,iX,xq,nE,true_and];omega),e];rw [aR (c:=((if n.Op=8 then q.1 else ot q.1,(0:Int)):List cK×Int).2≠0) (by simp)];unfold sN;rw [aR (by simp [h0])];by_cases h8:n.Op=8
    ·rw [bz h8,aR (by simp [h8])];exact hk2 q.1 q d1 (by omega)
    ·rw [aR h8,bz (by simpa using h8),Nq (d1.small h2.k16 (by omega)),d1.allr h2.k16,bw];exact hk2 (ot q.1) q (d1.perm (jb eZ _).symm) (by show(zr eZ q.1).length<=8000;rw [zy];omega)
  ·have e:Fp n q=([],q.2):=by unfold Fp;rw [bz h0]
   rw [aR (by simp [h0]),e];rw [bz (c:=(([],q.2):List cK×Int).2≠0) h0];unfold sN Ee;rw [bz (by simpa using h0)];rw [bz (c:=(([],q.2):List (List cK)×Int).2≠0) h0]
def agX(ks:Nat->List Int):NM ks [] 0:=⟨rfl,fun j hj=>by omega⟩
def GN(b:da)(n:ai):Bool:= !(n.Op==1)||(decide (n.Table<(b.Tables.length:Int))&&SY (Ex b n) n.P')
def OM(l:aZ)(b:da):Bool:=l.j'.all (GN b)
def aax{b:da}(J:n.Op=1->0<=n.Table)(f:List cK->List Int->Option Bool)(hf: ∀x y,f x y=some (SY x y)):(if(n.Op==(1:Int))then((if(!(decide ((b.Tables.length:Int)<=n.Table)))then((cO b.Tables n.Table).bind fun e1=>(f e1 n.P').bind fun r1=>some (!r1))else some true).bind fun t1=>some t1)else some false)=some (!GN b n):=by
 unfold GN;by_cases I:n.Op=1
 ·have h0:=J I;by_cases hl:n.Table<(b.Tables.length:Int)
  ·have hi:cO b.Tables n.Table=some (Ex b n):=by
    unfold Ex;rw [mE n.Table.toNat (by omega),qg (by omega)];rfl
   rw [bz (by simpa using I),bz (by simp;omega),hi,bw,hf,bw,bw,I];simp [hl]
  ·rw [bz (by simpa using I),aR (by simp;omega),bw,I];simp [hl]
 ·rw [aR (by simpa using I)];simp [I]
def MR(b:da): ∀ns:List ai,(∀n∈ns,n.Op=1->0<=n.Table)->sO b ns=some (ns.all (GN b))
 |[],_=>rfl
 |n::t,h=>by
  unfold sO;rw [aax (h n (md ..)) xh Mq,bw,MR b t fun x V=>h x (ma _ V),xr];cases GN b n<;>rfl
def Uj(K:xo l sz ks): ∀n∈l.j',n.Op=1->0<=n.Table:=by
 intro n hn I;obtain⟨j,hj,e⟩:=Iw.1 hn;obtain⟨m,F⟩:=K.all j hj;have:m=n:=by
  have:=F.node;rw [cG,qg hj,e]at this;injection this with this;exact this.symm
 subst this;exact(PY I F.v').2.1
def zO(hS:im l)(h:ci l=true)(b:da):zP l b=some (OM l b):=by
 obtain⟨sz,ks,K⟩:=jt hS h;obtain⟨_,⟨j,hj⟩,_⟩:=sk hS;rw [h]at hj;unfold zP;rw [hj,bw,bz rfl,aR (by decide),MR b _ (Uj K)];rfl
def oF(b:da):Prop:= ∀t∈b.Tables,Jw t
def Wq: ∀{r:cK} {ks:List Int},r.length=ks.length->SZ r ks=true->(∀k∈ks,k<=3)->RT r->RK ks r
 |[],[],_,_,_,_=>trivial
 |v::t,k::ks,hl,h,hk,hr=>by
  unfold SZ at h;simp only [iX,xv,xq]at h;have hk3:=hk k (md ..);refine⟨Lw ?_ (hr v (md ..)),?_,Wq (by simpa using hl) h.2 (fun x V=>hk x (ma _ V)) fun x V=>hr x (ma _ V)⟩
  ·unfold ss;rw [h.1.1];simp only [Al,yD,ne_eq];omega
  ·unfold vW;omega
 |[],_::_,hl,_,_,_=>by simp at hl
 |_::_,[],hl,_,_,_=>by simp at hl
def ab8{b:da}(hN: ∀n∈l.j',lZ n)(H:oF b)(h:ci l=true)(hf:OM l b=true): ∃sz ks,Dd l b sz ks:=by
 have hS:im l:=fun n hn=>(hN n hn).small;obtain⟨sz,ks,K⟩:=jt hS h;refine⟨sz,ks,K,h,hN,?_⟩;intro j n hj I;have hm:n∈l.j':=by rw [cG]at hj;exact FS hj
 have hjl:j<l.j'.length:=by
  rw [cG]at hj;obtain⟨h,_⟩:=qS.1 hj;exact h
 obtain⟨m,F⟩:=K.all j hjl;have e:m=n:=by have:=F.node;rw [hj]at this;injection this with this;exact this.symm
 subst e;obtain⟨k1,t1,t2⟩:=PY I F.v';have hfn:=mN.1 hf m hm;unfold GN at hfn;rw [I]at hfn;simp only [Ko,rM,B6,iX,nE]at hfn;obtain⟨f1,f2⟩:=hfn;unfold SY at f2;rw [iX,nE,mN]at f2;have hlt:m.Table.toNat<b.Tables.length:=by omega
 have htab:Ex b m=b.Tables[m.Table.toNat]:=by
  unfold Ex;rw [qg hlt];rfl
 refine⟨hlt,?_,f2.1⟩;intro r hr;have hfr:=f2.2 r hr;unfold aaz at hfr;rw [iX,nE]at hfr;rw [k1];refine Wq hfr.1 hfr.2 ?_ ?_
 ·intro k hk;have:=DB (aeW hS K.all j hjl) (by rw [k1];exact hk);unfold k4 at this;omega
 ·rw [htab]at hr;exact H _ (A5 hlt) r hr
def H3(aj:Dd l base sz ks)(hf:OM l base=true):j5 l base=some (qj l base ks):=by
 obtain⟨_,⟨j,hj⟩,_⟩:=sk aj.small;rw [aj.right]at hj;unfold j5;rw [hj,bw,bz rfl,aR (by decide),zO aj.small aj.right,bw,hf,aR (by decide)];exact OW aj l.j' 0 [] rfl (nh _) (agX ks)
def Mr(hS:im l)(h:ci l=false)(base:da):j5 l base=some ([],230):=by
 obtain⟨_,⟨j,hj⟩,_⟩:=sk hS;rw [h]at hj;unfold j5;rw [hj,bw];rfl
def GY(hS:im l)(h:ci l=true)(hf:OM l base=false):j5 l base=some ([],250):=by
 obtain⟨_,⟨j,hj⟩,_⟩:=sk hS;rw [h]at hj;unfold j5;rw [hj,bw,bz rfl,aR (by decide),zO hS h,bw,hf];rfl
def aci(aj:Dd l base sz ks):uE (ks (l.j'.length-1)) (qj l base ks).1/\(qj l base ks).1.length<=8000/\((qj l base ks).2=0\/qj l base ks=([],3)\/(qj l base ks=([],140)/\l.j'.any Nl=true)):=by
 obtain⟨I,M⟩:=Li aj l.j' 0 [] rfl (nh _) (agX ks);have hpos:=aj.known.pos;unfold qj Ee;by_cases h0:(iA base ks l.j' []).2=0
 ·rw [aR (by simp [h0])];have h1:=I h0;have hl:=h1.len;have:=h1.ok (l.j'.length-1) (by omega);refine⟨?_,?_,.inl rfl⟩
  ·show uE _ (CU _);unfold CU;rw [hl];exact this.1
  ·show(CU _).length<=8000;unfold CU;rw [hl];exact this.2
 ·rw [bz h0];refine⟨(fun r hr=>by cases hr),by simp,?_⟩;rcases M with q|q|q
  ·exact absurd q h0
  ·rw [q];exact .inr (.inl rfl)
  ·rw [q.1];exact .inr (.inr ⟨rfl,q.2⟩)
def AC(b:da)(ks:Nat->List Int): ∀(p q:List ai) (rows:List (List cK)),iA b ks (p++q) rows=if(iA b ks p rows).2≠0 then([],(iA b ks p rows).2)else iA b ks q (iA b ks p rows).1
 |[],q,rows=>by
  have e:iA b ks [] rows=(rows,0):=rfl;rw [e,aR (by simp)];rfl
 |n::t,q,rows=>by
  rw [B7];by_cases h:(ie n b (uC rows n.A) (uC rows n.B) (EX ks n.B)).2≠0
  ·have e1: ∀s:List ai,iA b ks (n::s) rows=([],(ie n b (uC rows n.A) (uC rows n.B) (EX ks n.B)).2):=fun s=>by conv=>lhs;unfold iA;rw [bz h]
   rw [e1,e1,bz h]
  ·have e1: ∀s:List ai,iA b ks (n::s) rows=iA b ks s (rows++[(ie n b (uC rows n.A) (uC rows n.B) (EX ks n.B)).1]):=fun s=>by conv=>lhs;unfold iA;rw [aR h]
   rw [e1,e1,AC b ks t q]
def PK(b:da)(ks ks' :Nat->List Int): ∀(t:List ai) (rows:List (List cK)),(∀n∈t,EX ks n.B=EX ks' n.B)->iA b ks t rows=iA b ks' t rows
 |[],_,_=>rfl
 |n::t,rows,h=>by
  unfold iA;rw [h n (md ..)];split
  ·rfl
  ·exact PK b ks ks' t _ fun m hm=>h m (ma _ hm)
def aby{pre:List (List cK)}{d:Nat}(hp:pre.length=d)(hd:d<=1000)(V:x<=1000):uC (pre++rows) (zt (d:Int) x)=uC rows x:=by
 unfold zt;by_cases h:0<=x
 ·rw [bz h,wR (by omega) (by omega)];unfold uC;rw [aR (by omega),aR (by omega),we (by omega)];congr 2;omega
 ·rw [aR h];unfold uC;rw [bz (by omega),bz (by omega)]
def abf(d:Int)(n:ai)(b:da)(x y:List cK)(w:Nat):ie (u6 d n) b x y w=ie n b x y w:=rfl
def Oh(b:da)(ks ks' :Nat->List Int){d:Nat}(hd:d<=1000)(pre:List (List cK))(hp:pre.length=d): ∀(t:List ai) (rows:List (List cK)),(∀n∈t,n.A<=1000/\n.B<=1000/\EX ks' (zt (d:Int) n.B)=EX ks n.B)->iA b ks' (t.map (u6 (d:Int))) (pre++rows)=if(iA b ks t rows).2≠0 then([],(iA b ks t rows).2)else(pre++(iA b ks t rows).1,0)
 |[],rows,_=>by
  have e:iA b ks [] rows=(rows,0):=rfl;rw [e,aR (by simp)];rfl
 |n::t,rows,h=>by
  obtain⟨I,M,h3⟩:=h n (md ..);have J:=fun m hm=>h m (ma n hm);have eA:(u6 (d:Int) n).A=zt (d:Int) n.A:=rfl;have eB:(u6 (d:Int) n).B=zt (d:Int) n.B:=rfl;have el:iA b ks' ((n::t).map (u6 (d:Int))) (pre++rows)=if(ie n b (uC rows n.A) (uC rows n.B) (EX ks n.B)).2≠0 then([],(ie n b (uC rows n.A) (uC rows n.B) (EX ks n.B)).2)else iA b ks' (t.map (u6 (d:Int))) (pre++(rows++[(ie n b (uC rows n.A) (uC rows n.B) (EX ks n.B)).1])):=by
   rw [va]
   conv=>lhs;unfold iA
   rw [eA,eB,aby hp hd I,aby hp hd M,h3,abf,mj]
  have er:iA b ks (n::t) rows=if(ie n b (uC rows n.A) (uC rows n.B) (EX ks n.B)).2≠0 then([],(ie n b (uC rows n.A) (uC rows n.B) (EX ks n.B)).2)else iA b ks t (rows++[(ie n b (uC rows n.A) (uC rows n.B) (EX ks n.B)).1]):=by
   conv=>lhs;unfold iA
  rw [el,er];by_cases hc:(ie n b (uC rows n.A) (uC rows n.B) (EX ks n.B)).2≠0
  ·rw [bz hc,bz hc,bz hc]
  ·rw [aR hc,aR hc];exact Oh b ks ks' hd pre hp t _ J
def lZ.sh(h:lZ n)(d:Int):lZ (u6 d n):=⟨h.small.sh d,h.cond,h.items,h.args⟩
def lZ.at(h:lZ n)(x y:Int):lZ (AR x y n):=⟨h.small.at x y,h.cond,h.items,h.args⟩
def CN{b:da}(aj:Dd l b sz ks): ∀n∈l.j',(n.A= -1\/0<=n.A/\n.A<(l.j'.length:Int))/\(n.B= -1\/0<=n.B/\n.B<(l.j'.length:Int)):=by
 intro n hn;obtain⟨j,hj,e⟩:=Iw.1 hn;obtain⟨m,F⟩:=aj.known.all j hj;have:m=n:=by
  have:=F.node;rw [cG,qg hj,e]at this;injection this with this;exact this.symm
 subst this;obtain⟨pA,pB⟩:=qm F;omega
def Ll{b:da}(aj:Dd l b sz ks)(h0:(qj l b ks).2=0):(iA b ks l.j' []).2=0/\(iA b ks l.j' []).1.length=l.j'.length/\CU (iA b ks l.j' []).1=(qj l b ks).1:=by
 obtain⟨I,M⟩:=Li aj l.j' 0 [] rfl (nh _) (agX ks);unfold qj Ee at h0 ⊢;by_cases h:(iA b ks l.j' []).2=0
 ·refine⟨h,(I h).len,?_⟩;rw [aR (by simp [h])]
 ·rw [bz h]at h0;exact absurd h0 h
def MD(pre:List (List cK))(h:1<=rows.length)(V:x=(pre.length:Int)+(rows.length:Int)-1)(post:List (List cK)):uC (pre++rows++post) x=CU rows:=by
 unfold uC CU;rw [aR (by omega),EU (by simp only [lj];omega),we (by omega)];congr 2;omega
def PJ(b:da)(ks:Nat->List Int)(m:ai)(rows:List (List cK))(q:List cK×Int)(hq:ie m b (uC rows m.A) (uC rows m.B) (EX ks m.B)=q):iA b ks [m] rows=if q.2≠0 then([],q.2)else(rows++[q.1],0):=by
 unfold iA;rw [hq];rfl
def QK(rows:List (List cK))(q:List cK×Int)(h:q.2≠0->q.1=[]):Ee (if q.2≠0 then([],q.2)else(rows++[q.1],0))=q:=by
 unfold Ee;by_cases hc:q.2=0
 ·rw [aR (c:=q.2≠0) (by simp [hc])];simp only [ne_eq,Rg,gT];unfold CU;have:(rows++[q.1])[(rows++[q.1]).length-1]? =some q.1:=by simp
  rw [this,<-hc];rfl
 ·rw [bz (c:=q.2≠0) hc,bz hc];have:=h hc;rw [<-this]
def H5{b:da}{x y:List cK}{w:Nat}(h:(ie n b x y w).2≠0):(ie n b x y w).1=[]:=by
 unfold ie Fp at h ⊢;split
 ·rfl
 ·split
  ·rfl
  ·rename_i a1 a2;rw [aR a1,aR a2]at h;exact absurd rfl h
