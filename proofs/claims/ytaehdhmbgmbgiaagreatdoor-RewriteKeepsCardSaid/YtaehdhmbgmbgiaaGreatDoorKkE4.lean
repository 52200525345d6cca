import Derived.Test.YtaehdhmbgmbgiaaGreatDoorKkE3
import Derived.Test.YtaehdhmbgmbgiaaGreatDoorKkE1
set_option linter.all false
namespace Go.Proofs.YtaehdhmbgmbgiaaGreatDoor
open Go
def Wd(lt:List Tr)(a K:List Int)(hl:K.length=lt.length)(hK: ∀j (h:j<lt.length),kd a lt[j]=some (K[j]'(by omega))): ∀t:Tr,t.wf->uS lt.length t-> ∀k,kd K t=some k->kd a (pt lt t)=some k
 | .lf n,hw,hc,k,h=>by
  have H:n.Tag=2->0<=n.X':=fun M=>(vm (t:= .lf n) hw 0 (n:=eY n (-1) (-1)) (by simp [Tr.flat]) M).1;unfold pt;by_cases M:n.Tag=2
  ·rw [bz M];have h0:=H M;have I:n.X'<lt.length:=hc M;have hj:n.X'.toNat<lt.length:=by omega
   unfold kd at h;rw [aR (by omega),qg (by omega)]at h;rw [qg hj,Option.getD_some,hK _ hj];exact h
  ·rw [aR M];unfold kd at h ⊢;by_cases I:n.Tag=1
   ·rw [bz I]at h ⊢;exact h
   ·exfalso;have:pk n.Tag=some 0:=hw.1;rcases ZJ this with k|k
    ·exact I k
    ·exact M k
 | .un n x,hw,hc,k,h=>by
  unfold pt;rw [SL]at h ⊢
  cases V:kd K x with
  |none=>rw [V]at h;cases h
  |some y=>
   rw [V]at h;rw [Wd lt a K hl hK x hw.2 hc y V];exact h
 | .bi n x y,hw,hc,k,h=>by
  unfold pt;rw [OA]at h ⊢
  cases V:kd K x with
  |none=>rw [V]at h;cases h
  |some u=>
   rw [V]at h;rw [Wd lt a K hl hK x hw.2.1 hc.1 u V];simp only [bw]at h ⊢
   cases hy:kd K y with
   |none=>rw [hy]at h;cases h
   |some v=>
    rw [hy]at h;rw [Wd lt a K hl hK y hw.2.2 hc.2 v hy];exact h
def ai0(n:ai)(a:List Int): ∀(tl:List au) (i fu:Nat) (out:List Int) (ok:Bool) (k:List Int),n.I'.drop i=tl->n.I'.length<=5000->dw n a fu out ok (i:Int)=some (k,true)->ok=true/\k=out++tl.map (fun e=>(eM e a).1)/\ ∀e∈tl,(eM e a).2=0:=by
 intro tl
 induction tl with
 |nil=>
  intro i fu out ok k hd hl h
  cases fu with
  |zero=>cases h
  |succ fu=>
   have:=xg hd;rw [dw,aR (by simp;omega)]at h;injection h with h;injection h with h0 h;simp only [iX]at h;exact⟨h.1.1,by simp [h0],by simp⟩
 |cons x tl ih=>
  intro i fu out ok k hd hl h
  cases fu with
  |zero=>cases h
  |succ fu=>
   obtain⟨I,M,h3⟩:=kp hd;rw [dw,bz (by simp;omega),I]at h;simp only [bw,n7]at h
   cases ha:app out [(eM x a).1]with
   |none=>rw [ha]at h;cases h
   |some o=>
    rw [ha]at h;simp only [bw]at h;rw [cB (by omega) (by omega),show((i:Int)+1)=((i+1:Nat):Int)from by omega]at h;obtain⟨g1,g0,g2⟩:=ih (i+1) fu o _ k h3 hl h;simp only [iX,xq]at g1;refine⟨g1.1,by rw [g0,sT ha];simp,fun e he=>by
     rcases iW.1 he with rfl|he
     ·exact g1.2
     ·exact g2 e he⟩
def y7{n:ai}{a b k:List Int}(hop:n.Op=5)(hl:n.I'.length<=5000)(h:bB n a b=some (k,true)):k=n.I'.map (fun e=>(eM e a).1)/\ ∀e∈n.I',(eM e a).2=0:=by
 unfold bB at h;rw [aR (by simp [hop]),aR (by simp [hop]),aR (by simp [hop]),aR (by simp [hop]),bz (by simp [hop])]at h;have:=ai0 n a n.I' 0 jl [] true k rfl hl h;exact⟨by simpa using this.2.1,this.2.2⟩
def Bw{e:au}{a:List Int}(h:(eM e a).2=0): ∃t,t.wf/\t.size<=1000/\e=cS t/\ll e.j'=some t/\uA a.length e.j'=true/\kd a t=some (eM e a).1:=by
 have hr:=CW h;have hr2:=hr;unfold gX at hr2;obtain⟨t,J⟩:=Rn.1 hr2;obtain⟨hw,hN,hs⟩:=kH J;refine⟨t,hw,hs,by unfold cS;rw [<-hN],J,?_⟩;unfold eM at h ⊢;rw [bz hr]at h ⊢;split at h
 ·split at h
  ·rename_i I M;refine⟨M,?_⟩;rw [bz I,bz M];rw [J]at h ⊢;simp only [bw]at h ⊢
   cases hk:kd a t with
   |none=>rw [hk]at h;simp at h
   |some k=>rfl
  ·simp at h
 ·simp at h
def HO{u:Tr}{a:List Int}(hw:u.wf)(hs:u.size<=1000)(h:(eM (cS u) a).2=0):kd a u=some (eM (cS u) a).1/\uS a.length u:=by
 obtain⟨t,I,M,h3,h4,h5,h6⟩:=Bw h;have:ll (cS u).j'=some u:=rY hw hs;rw [this]at h4;injection h4 with h4;subst h4;exact⟨h6,xj _ _ hw 0 h5⟩
def BZ{t:aB}(h:pc t):(t.root.Op=1/\t.parts=[])\/(∃n p,pc p/\cI n/\ci (d1 n p.D')=true/\t=bE n p/\n.Op≠1/\n.Op≠2/\n.Op≠7)\/(∃n p q,pc p/\pc q/\cI n/\ci (d2 n p.D' q.D')=true/\t=dg n p q/\(n.Op=2\/n.Op=7)):=by
 cases h with
 |leaf r hs hA hB hr=>
  left;obtain⟨sz,ks,K⟩:=jt (l:=⟨[r]⟩) (fun n hn=>by cases mf.1 hn;exact hs) hr;obtain⟨n,F⟩:=K.all 0 (by simp);have hn:r=n:=by have:=F.node;injection this
  subst hn;refine⟨?_,rfl⟩;by_cases I:r.Op=1
  ·exact I
  ·by_cases M:r.Op=2\/r.Op=7
   ·have:=(F.bi M).1;omega
   ·have:=(F.un I (fun k=>M (.inl k)) (fun k=>M (.inr k))).1;omega
 |one n p hp hs hr=>
  have:=oU hp hs hr;exact .inr (.inl ⟨n,p,hp,hs,hr,rfl,this.2.2⟩)
 |two n p q hp hq hs hr=>exact .inr (.inr ⟨n,p,q,hp,hq,hs,hr,rfl,(CX hp hq hs hr).2⟩)
def oJ(items:List au):ai:=⟨(5:Int),(0:Int),(0:Int),(0:Int),[],false,(⟨[]⟩:au),[],[],items,[],(0:Int)⟩
def Fj{us:List Tr}(hl:us.length<=5000)(h: ∀u∈us,u.size<=1000):cI (oJ (us.map cS)):=
 ⟨by simp [oJ],by simp [oJ],by simp [oJ],by simp [oJ],by simp [oJ];omega,by simp [oJ],by simp [oJ],fun e he=>by
  obtain⟨u,hu,rfl⟩:=rL.1 he;have:=h u hu;simp only [cS,Tr.flat_len];omega⟩
def RZ(t x:aB)(y:aB)(lt:List Tr)(hlt: ∀u∈lt,u.wf/\u.size<=1000)(hll:lt.length<=1000)(V:x.root.I'=lt.map cS)(hy:x.parts=[y])(hT:pc y): ∀(tl:List au) (out:List Tr) (z:aB),(∀e∈tl,∃u,u.wf/\u.size<=1000/\e=cS u)->tl.length+out.length<=1000->(∀u∈out,u.size<=1000)->
  jq t x tl (out.map cS) z=some (t,0)\/ ∃us:List Tr,tl=us.map cS/\(∀u∈us,u.wf/\u.size<=1000/\uS lt.length u/\(pt lt u).size<=1000)/\
   jq t x tl (out.map cS) z=some (if ci (d1 (oJ ((out++us.map (pt lt)).map cS)) y.D')then(bE (oJ ((out++us.map (pt lt)).map cS)) y,1)else(zT,2))
 |[],out,z,_,hn,ho=>by
  right;refine⟨[],rfl,by simp,?_⟩;unfold jq;rw [hy,show cO [y] 0=some y from rfl];simp only [bw,xF,vb];rw [show(⟨(5:Int),(0:Int),(0:Int),(0:Int),[],false,(⟨[]⟩:au),[],[],out.map cS,[],(0:Int)⟩:ai)=oJ (out.map cS)from rfl,CK hT (Fj (by simp at hn;omega) ho)];cases ci (d1 (oJ (out.map cS)) y.D')<;>rfl
 |e::tl,out,z,he,hn,ho=>by
  obtain⟨u,hw,hs,rfl⟩:=he _ (md ..);obtain⟨p,no,I,M⟩:=S8 (cS u) (by simp only [cS,Tr.flat_len];omega) lt hll hlt;unfold jq;rw [V,I];simp only [bw];by_cases h0:no=0
  ·obtain⟨u',g1,g2,g3,g4⟩:=M h0;have:ll (cS u).j'=some u:=rY hw hs;rw [this]at g1;injection g1 with g1;subst g1;rw [aR (by simp [h0]),cF (by simp at hn ⊢;omega)];simp only [bw,g4];rw [show out.map cS++[cS (pt lt u)]=(out++[pt lt u]).map cS from by simp];rcases RZ t x y lt hlt hll V hy hT tl (out++[pt lt u]) z (fun e k=>he e (ma _ k)) (by simp at hn ⊢;omega) (fun v hv=>by
    rcases qR.1 hv with k|k
    ·exact ho v k
    ·rw [mf.1 k];exact g3)with k|⟨us,k1,k2,k3⟩
   ·exact .inl k
   ·refine .inr ⟨u::us,by rw [k1];rfl,fun v hv=>?_,?_⟩
    ·rcases iW.1 hv with rfl|hv
     ·exact⟨hw,hs,g2,g3⟩
     ·exact k2 v hv
    ·rw [k3];simp
  ·left;rw [bz (by simpa using h0)]
def Rw(u:Tr):Gb (cS u)=Eg u:=by
 unfold Gb cS;rw [C0];have:=u.size_pos;have hl:=u.flat_len 0
 cases h:u.flat 0 with
 |nil=>rw [h]at hl;simp at hl;omega
 |cons a b=>rfl
