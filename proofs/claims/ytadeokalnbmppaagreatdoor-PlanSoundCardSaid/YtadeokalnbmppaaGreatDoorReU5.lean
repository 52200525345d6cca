import Derived.Test.YtadeokalnbmppaaGreatDoorReU2
import Derived.Test.YtadeokalnbmppaaGreatDoorReQ3
set_option linter.all false
namespace Go.Proofs.YtadeokalnbmppaaGreatDoor
open Go IntKind
def qW(p:aK)(fs:List bt):aK:={p with c_:=⟨fs⟩}
def kX(t:Nat)(j':List Int):ac:=⟨9,-1,-1,(t:Int),j',false,⟨[]⟩,[],[],[],[],0⟩
def lg(s:be)(way:Int)(d_:List Int)(fs:List bt):be:=⟨[kX fs.length s.j'],s.j',if way=3 then 2 else 1,d_⟩
def nR(s:be)(way:Int)(d_:List Int)(fs:List bt):List bt:=fs++[⟨s.A',s.h_,way,d_⟩]
def dh(n:ac)(a b:Int):ac:=ac.mk n.Op a b n.M' n.U' n.Left n.f_ n.I' n.L' n.N' n.Y' n.Z'
def q_(n:ac)(j':List Int)(s:be):be:=⟨s.A'++[dh n ((s.A'.length:Int)-1) (-1)],j',s.h_,[]⟩
def V_(n:ac)(j':List Int)(a b:be):be:=⟨a.A'++b.A'.map (xf (a.A'.length:Int))++[dh n ((a.A'.length:Int)-1) ((a.A'.length:Int)+(b.A'.length:Int)-1)],j',a.h_,[]⟩
def iO(s:be)(h:List Int):be:=⟨s.A',s.j',s.h_,h⟩
def SmA(n:ac):Prop:=n.L'.length<=5000/\n.Y'.length<=5000
structure JY(s:be):Prop where
 h_:s.h_=1\/s.h_=2
 pos:1<=s.A'.length
 len:s.A'.length<=1000
 j':s.j'.length<=100
 V':s.V'.length<=100
 refs: ∀n∈s.A',n.A<(s.A'.length:Int)/\n.B<(s.A'.length:Int)
 sm: ∀n∈s.A',SmA n
def xB(l:List Int)(h:l.length<=100000):bU l=some l:=by
 unfold bU;rw [cK (by simp;omega)];rfl
def CH(l:List ac)(h:l.length<=100000):fP l=some l:=by
 unfold fP;rw [cK (by simp;omega)];rfl
def sJ{p:aK}{s:be}{way:Int}{d_:List Int}{fs:List bt}(hc:d_.length<=1000)(hk:s.j'.length<=1000)(Q:fs.length<=1000):ez (qW p fs) s way d_=some (lg s way d_ fs,qW p (nR s way d_ fs)):=by
 unfold ez;rw [xB d_ (by omega),bh];show((nH fs [(⟨s.A',s.h_,way,d_⟩:bt)]).bind _)=_;rw [cK (by simp;omega),bh,xB s.j' (by omega),bh];have e:i64.wrap (((fs++[(⟨s.A',s.h_,way,d_⟩:bt)]).length:Int)-1)=(fs.length:Int):=by
  rw [cJ (by simp<;>omega) (by simp<;>omega)];simp
 unfold om lg nR kX;rw [e];by_cases hw:way=3
 ·rw [bq (by simpa using hw),bq hw];rfl
 ·rw [aZ (by simpa using hw),aZ hw];rfl
def JY.send{s:be}(hs:JY s){way:Int}{d_:List Int}{fs:List bt}(hc:d_.length<=100):JY (lg s way d_ fs) where
 h_:=by unfold lg;by_cases h:way=3<;>simp [h]
 pos:=by simp [lg]
 len:=by simp [lg]
 j':=hs.j'
 V':=hc
 refs:=fun n hn=>by
  have:n=kX fs.length s.j':=by simpa [lg] using hn
  subst this;simp [lg,kX]
 sm:=fun n hn=>by
  have:n=kX fs.length s.j':=by simpa [lg] using hn
  subst this;simp [SmA,kX]
def BA(s:be)(fs:List bt):be:=if s.h_=2 then s else lg s 3 [] fs
def yg(s:be)(fs:List bt):List bt:=if s.h_=2 then fs else nR s 3 [] fs
def yf{p:aK}{s:be}{fs:List bt}(hk:s.j'.length<=1000)(Q:fs.length<=1000):eC (qW p fs) s=some (BA s fs,qW p (yg s fs)):=by
 unfold eC BA yg;by_cases h:s.h_=2
 ·rw [bq (by simpa using h),bq h,bq h]
 ·rw [aZ (by simpa using h),aZ h,aZ h,sJ (by simp) hk Q];rfl
def EA{s:be}{fs:List bt}:(BA s fs).h_=2:=by
 unfold BA;split
 ·assumption
 ·rfl
def Ar(s:be)(fs:List bt):fs.length<=(yg s fs).length/\(yg s fs).length<=fs.length+1:=by
 unfold yg nR;split<;>simp
def qe(s:be)(way:Int)(d_:List Int)(fs:List bt):(nR s way d_ fs).length=fs.length+1:=by simp [nR]
def aay(d:Int)(x:ac):xf d x=ac.mk x.Op (yE d x.A) (yE d x.B) x.M' x.U' x.Left x.f_ x.I' x.L' x.N' x.Y' x.Z':=rfl
def y5(nx:Nat->ac->be->Option be)(i:Nat)(n1:ac)(out:be): ∀(tl:List ac) (g_:be),g_.A'.length+tl.length<=100000->
  eD nx i n1 out tl g_=eD nx i n1 out [] {g_ with A':=g_.A'++tl.map (xf (out.A'.length:Int))}
 |[],g_,_=>by simp
 |x::tl,g_,h=>by
  rw [jr]at h;have ex:x=ac.mk x.Op x.A x.B x.M' x.U' x.Left x.f_ x.I' x.L' x.N' x.Y' x.Z':=rfl;have key: ∀a:Int,a=yE (out.A'.length:Int) x.A->tB out (eD nx i n1 out tl) g_ (ac.mk x.Op a x.B x.M' x.U' x.Left x.f_ x.I' x.L' x.N' x.Y' x.Z')=eD nx i n1 out tl {g_ with A':=g_.A'++[xf (out.A'.length:Int) x]}:=by
   intro a hA;have hk2: ∀z:ac,tA (eD nx i n1 out tl) g_ z=eD nx i n1 out tl {g_ with A':=g_.A'++[z]}:=fun z=>by
    unfold tA;rw [cK (by simp;omega),bh]
   unfold tB;rw [hk2,hk2,aay,hA];by_cases K:0<=x.B
   ·rw [bq (by simpa using K)];have:yE (out.A'.length:Int) x.B=i64.wrap (x.B+(out.A'.length:Int)):=bq K;rw [this]
   ·rw [aZ (by simpa using K)];have:yE (out.A'.length:Int) x.B=x.B:=aZ K;rw [this]
  have fin:eD nx i n1 out tl {g_ with A':=g_.A'++[xf (out.A'.length:Int) x]}=eD nx i n1 out [] {g_ with A':=g_.A'++(x::tl).map (xf (out.A'.length:Int))}:=by
   rw [y5 nx i n1 out tl _ (by simp;omega)];simp
  conv=>lhs;unfold eD
  by_cases ha:0<=x.A
  ·have:=key (i64.wrap (x.A+(out.A'.length:Int))) (by unfold yE;rw [bq ha]);rw [bq (by simpa using ha),this,fin]
  ·have:=key x.A (by unfold yE;rw [aZ ha]);rw [<-ex]at this;rw [aZ (by simpa using ha),this,fin]
def Q9{s:be}(hs:JY s):s.A'.map (xf 0)=s.A':=by
 have hl:=hs.len;have: ∀n∈s.A',xf 0 n=n:=fun n hn=>by
  have:=hs.refs n hn;exact Mj (by omega) (by omega)
 exact(E3 this).trans (List.map_id _)
def oK(n:ac)(j':List Int){s:be}(hs:JY s):gh n j' [s]=some (q_ n j' s):=by
 have hl:=hs.len;have hp:=hs.pos;unfold gh;show gV [s] 0 _ _=_;unfold gV;rw [CH s.A' (by omega),bh,y5 _ _ _ _ _ _ (by simp;omega)];show eD (gV []) 0 _ _ [] ⟨[]++s.A'.map (xf 0),j',s.h_,[]⟩=_;rw [Q9 hs,lz];unfold eD;rw [bq (by simp)];unfold gV;show((nH s.A' _).bind _)=_;rw [cK (by simp;omega),bh];show some (⟨s.A'++[ac.mk n.Op (i64.wrap ((s.A'.length:Int)-1)) (-1) n.M' n.U' n.Left n.f_ n.I' n.L' n.N' n.Y' n.Z'],j',s.h_,[]⟩:be)=_;rw [cJ (by omega) (by omega)];rfl
def y6(n:ac)(j':List Int){a b:be}(ha:JY a)(K:JY b):gh n j' [a,b]=some (V_ n j' a b):=by
 have hl:=ha.len;have hl2:=K.len;have hp:=ha.pos;have hp2:=K.pos;unfold gh;show gV [a,b] 0 _ _=_;unfold gV;rw [CH a.A' (by omega),bh,y5 _ _ _ _ _ _ (by simp;omega)];show eD (gV [b]) 0 _ _ [] ⟨[]++a.A'.map (xf 0),j',a.h_,[]⟩=_;rw [Q9 ha,lz];unfold eD;rw [bq (by simp)];unfold gV;rw [CH b.A' (by omega),bh,y5 _ _ _ _ _ _ (by simp;omega)];unfold eD;rw [aZ (by simp)];unfold gV;show((nH (a.A'++b.A'.map (xf (a.A'.length:Int))) _).bind _)=_;rw [cK (by simp;omega),bh];show some (⟨(a.A'++b.A'.map (xf (a.A'.length:Int)))++[ac.mk n.Op (i64.wrap ((a.A'.length:Int)-1)) (i64.wrap (((a.A'++b.A'.map (xf (a.A'.length:Int))).length:Int)-1)) n.M' n.U' n.Left n.f_ n.I' n.L' n.N' n.Y' n.Z'],j',a.h_,[]⟩:be)=_;rw [cJ (by omega) (by omega),cJ (by simp;omega) (by simp;omega)];unfold V_ dh;simp
def JY.q_{n:ac}{j' h:List Int}{s:be}(hs:JY s)(hk:j'.length<=100)(hh:h.length<=100)(hl:s.A'.length<=999)(hq:SmA n:=by assumption):JY (iO (q_ n j' s) h) where
 h_:=hs.h_
 pos:=by simp [iO,Go.Proofs.YtadeokalnbmppaaGreatDoor.q_]
 len:=by simp [iO,Go.Proofs.YtadeokalnbmppaaGreatDoor.q_];omega
 j':=hk
 V':=hh
 refs:=fun m hm=>by
  have hm' :m∈s.A'++[dh n ((s.A'.length:Int)-1) (-1)]:=hm;have hlen:((iO (Go.Proofs.YtadeokalnbmppaaGreatDoor.q_ n j' s) h).A'.length:Int)=(s.A'.length:Int)+1:=by simp [iO,Go.Proofs.YtadeokalnbmppaaGreatDoor.q_]
  rw [hlen];rcases oO.1 hm' with hm|hm
  ·have:=hs.refs m hm;omega
  ·rw [np.1 hm];show(s.A'.length:Int)-1<_/\(-1:Int)<_;omega
 sm:=fun m hm=>by
  have hm' :m∈s.A'++[dh n ((s.A'.length:Int)-1) (-1)]:=hm;rcases oO.1 hm' with hm|hm
  ·exact hs.sm m hm
  ·rw [np.1 hm];exact hq
def UV{d x m:Int}(h0:0<=d)(h:x<m)(hd:d<=100000)(hm:m<=100000):yE d x<d+m:=by
 unfold yE;split
 ·rw [cJ (by omega) (by omega)];omega
 ·omega
def JY.V_{n:ac}{j' h:List Int}{a b:be}(ha:JY a)(K:JY b)(hk:j'.length<=100)(hh:h.length<=100)(hl:a.A'.length+b.A'.length<=999)(hq:SmA n:=by assumption):JY (iO (V_ n j' a b) h) where
 h_:=ha.h_
 pos:=by simp [iO,Go.Proofs.YtadeokalnbmppaaGreatDoor.V_];omega
 len:=by simp [iO,Go.Proofs.YtadeokalnbmppaaGreatDoor.V_];omega
 j':=hk
 V':=hh
 refs:=fun m hm=>by
  have hm' :m∈(a.A'++b.A'.map (xf (a.A'.length:Int)))++[dh n ((a.A'.length:Int)-1) ((a.A'.length:Int)+(b.A'.length:Int)-1)]:=hm;have hlen:((iO (Go.Proofs.YtadeokalnbmppaaGreatDoor.V_ n j' a b) h).A'.length:Int)=(a.A'.length:Int)+(b.A'.length:Int)+1:=by simp [iO,Go.Proofs.YtadeokalnbmppaaGreatDoor.V_];omega
  rw [hlen];rcases oO.1 hm' with hm|hm
  ·rcases oO.1 hm with hm|hm
   ·have:=ha.refs m hm;omega
   ·obtain⟨y,hy,rfl⟩:=Bo.1 hm;have:=K.refs y hy;have D:=UV (d:=(a.A'.length:Int)) (x:=y.A) (m:=(b.A'.length:Int)) (by omega) this.1 (by omega) (by omega);have V:=UV (d:=(a.A'.length:Int)) (x:=y.B) (m:=(b.A'.length:Int)) (by omega) this.2 (by omega) (by omega);show yE _ y.A<_/\yE _ y.B<_;omega
  ·rw [np.1 hm];show(a.A'.length:Int)-1<_/\(a.A'.length:Int)+(b.A'.length:Int)-1<_;omega
 sm:=fun m hm=>by
  have hm' :m∈(a.A'++b.A'.map (xf (a.A'.length:Int)))++[dh n ((a.A'.length:Int)-1) ((a.A'.length:Int)+(b.A'.length:Int)-1)]:=hm;rcases oO.1 hm' with hm|hm
  ·rcases oO.1 hm with hm|hm
   ·exact ha.sm m hm
   ·obtain⟨y,hy,rfl⟩:=Bo.1 hm;exact K.sm y hy
  ·rw [np.1 hm];exact hq
def II(l pl:List Int):List Int:=pl.map fun k=>(l[k.toNat]?).getD 0
def XO{l:List Int}{k:Int}(h:0<=k/\k<(l.length:Int)):dm l k=some ((l[k.toNat]?).getD 0):=by
 have o_:k.toNat<l.length:=by omega
 rw [me k.toNat (by omega),qV o_];rfl
def Ap(other:List Int)(r:List Int×Bool): ∀(tl out:List Int),out.length+tl.length<=1000->(∀k∈tl,0<=k/\k<(other.length:Int))->nf other r tl out=some (out++II other tl,r.2)
 |[],out,_,_=>by unfold nf;simp [II]
 |k::tl,out,h,hk=>by
  rw [jr]at h;unfold nf;rw [XO (hk k (pz ..)),bh,cK (by simp;omega),bh,Ap other r tl _ (by simp;omega) (fun x I=>hk x (pA _ I))];simp [II]
