/- cP of this claim: E4. -/
import Derived.Test.YtbmmihfagmchaaaGreatRbE3
import Derived.Test.YtbmmihfagmchaaaGreatRbE1
set_option linter.all false
namespace Go.Proofs.YtbmmihfagmchaaaGreat
open Go

def Hj(lt:List Tr)(a af:List Int)(hl:af.length=lt.length)(hK: ∀j (h:j<lt.length),kd a lt[j]=some (af[j]'(by omega))): ∀t:Tr,t.wf->rx lt.length t-> ∀k,kd af t=some k->kd a (pt lt t)=some k
 | .lf n,hw,hc,k,h=>by
  have V:n.Tag=2->0<=n.Col:=fun J=>(qv (t:= .lf n) hw 0 (n:=dK n (-1) (-1)) (by simp [Tr.flat]) J).1
  unfold pt
  by_cases J:n.Tag=2
  ·rw [bD J]
   have h0:=V J
   have Y:n.Col<lt.length:=hc J
   have hj:n.Col.toNat<lt.length:=by omega
   unfold kd at h
   rw [bo (by omega),qY (by omega)]at h
   rw [qY hj,BE,hK _ hj]
   exact h
  ·rw [bo J]
   unfold kd at h ⊢
   by_cases Y:n.Tag=1
   ·rw [bD Y]at h ⊢;exact h
   ·exfalso
    have:pk n.Tag=some 0:=hw.1
    rcases RH this with k|k
    ·exact Y k
    ·exact J k
 | .un n x,hw,hc,k,h=>by
  unfold pt
  rw [Hi]at h ⊢
  cases I:kd af x with
  |none=>rw [I]at h;cases h
  |some y=>
   rw [I]at h
   rw [Hj lt a af hl hK x hw.2 hc y I]
   exact h
 | .bi n x y,hw,hc,k,h=>by
  unfold pt
  rw [EF]at h ⊢
  cases I:kd af x with
  |none=>rw [I]at h;cases h
  |some u=>
   rw [I]at h
   rw [Hj lt a af hl hK x hw.2.1 hc.1 u I]
   simp only [bt]at h ⊢
   cases hy:kd af y with
   |none=>rw [hy]at h;cases h
   |some v=>
    rw [hy]at h
    rw [Hj lt a af hl hK y hw.2.2 hc.2 v hy]
    exact h
def Hy(lt:List Tr)(hlt: ∀t∈lt,qZ t=false): ∀t:Tr,t.wf->rx lt.length t->qZ t=false->qZ (pt lt t)=false
 | .lf n,hw,hc,h=>by
  unfold pt
  split
  ·rename_i J
   have h0:0<=n.Col:=(qv (t:= .lf n) hw 0 (n:=dK n (-1) (-1)) (by simp [Tr.flat]) J).1
   have Y:n.Col<lt.length:=hc J
   rw [qY (show n.Col.toNat<lt.length by omega),BE]
   exact hlt _ (Bd _)
  ·exact h
 | .un n x,hw,hc,h=>by
  unfold pt
  simp only [qZ,yZ]at h ⊢
  exact⟨Hy lt hlt x hw.2 hc h.1,h.2⟩
 | .bi n x y,hw,hc,h=>by
  unfold pt
  simp only [qZ,yZ]at h ⊢
  exact⟨⟨Hy lt hlt x hw.2.1 hc.1 h.1.1,Hy lt hlt y hw.2.2 hc.2 h.1.2⟩,h.2⟩
def Qp(n:aa)(a:List Int): ∀(tl:List ai) (i fu:Nat) (out:List Int) (ok:Bool) (k:List Int),n.Items.drop i=tl->n.Items.length<=5000->cH n a fu out ok (i:Int)=some (k,true)->ok=true/\k=out++tl.map (fun e=>(gL e a).1)/\ ∀e∈tl,(gL e a).2=0:=by
 intro tl
 induction tl with
 |nil=>
  intro i fu out ok k hd hl h
  cases fu with
  |zero=>cases h
  |succ fu=>
   have:=ux hd
   rw [cH,bo (by simp;omega)]at h
   injection h with h
   injection h with h0 h
   simp only [iX]at h
   exact⟨h.1.1,by simp [h0],by simp⟩
 |cons x tl ih=>
  intro i fu out ok k hd hl h
  cases fu with
  |zero=>cases h
  |succ fu=>
   obtain⟨Y,J,Z⟩:=jl hd
   rw [cH,bD (by simp;omega),Y]at h
   simp only [bt,k7]at h
   cases ha:jp out [(gL x a).1]with
   |none=>rw [ha]at h;cases h
   |some o=>
    rw [ha]at h
    simp only [bt]at h
    rw [bB (by omega) (by omega),show((i:Int)+1)=((i+1:Nat):Int)from by omega]at h
    obtain⟨g1,g0,g2⟩:=ih (i+1) fu o _ k Z hl h
    simp only [iX,se]at g1
    refine⟨g1.1,by rw [g0,GH ha];simp,fun e he=>by
     rcases fT.1 he with rfl|he
     ·exact g1.2
     ·exact g2 e he⟩
def s6{n:aa}{a b k:List Int}(hop:n.Op=5)(hl:n.Items.length<=5000)(h:bc n a b=some (k,true)):k=n.Items.map (fun e=>(gL e a).1)/\ ∀e∈n.Items,(gL e a).2=0:=by
 unfold bc at h
 rw [bo (by simp [hop]),bo (by simp [hop]),bo (by simp [hop]),bo (by simp [hop]),bD (by simp [hop])]at h
 have:=Qp n a n.Items 0 fQ [] true k rfl hl h
 exact⟨by simpa using this.2.1,this.2.2⟩
def vZ{e:ai}{a:List Int}(h:(gL e a).2=0): ∃t,t.wf/\t.size<=1000/\e=cU t/\iF e.Nodes=some t/\ot a.length e.Nodes=true/\kd a t=some (gL e a).1:=by
 have hr:=lV h
 have hr2:=hr
 unfold dX at hr2
 obtain⟨t,D⟩:=DA.1 hr2
 obtain⟨hw,hN,hs⟩:=iR D
 refine⟨t,hw,hs,by unfold cU;rw [<-hN],D,?_⟩
 unfold gL at h ⊢
 rw [bD hr]at h ⊢
 split at h
 ·split at h
  ·rename_i Y J
   refine⟨J,?_⟩
   rw [bD Y,bD J]
   rw [D]at h ⊢
   simp only [bt]at h ⊢
   cases hk:kd a t with
   |none=>rw [hk]at h;simp at h
   |some k=>rfl
  ·simp at h
 ·simp at h
def xT{u:Tr}{a:List Int}(hw:u.wf)(hs:u.size<=1000)(h:(gL (cU u) a).2=0):kd a u=some (gL (cU u) a).1/\rx a.length u:=by
 obtain⟨t,Y,J,Z,h4,h5,h6⟩:=vZ h
 have:iF (cU u).Nodes=some u:=np hw hs
 rw [this]at h4
 injection h4 with h4
 subst h4
 exact⟨h6,ry _ _ hw 0 h5⟩
def zP{t:am}(h:ou t):(t.root.Op=1/\t.parts=[])\/(∃n p,ou p/\ck n/\bQ (d1 n p.Logic)=true/\t=be n p/\n.Op≠1/\n.Op≠2/\n.Op≠7)\/(∃n p q,ou p/\ou q/\ck n/\bQ (d2 n p.Logic q.Logic)=true/\t=cO n p q/\(n.Op=2\/n.Op=7)):=by
 cases h with
 |leaf r hs hA hB hr=>
  left
  obtain⟨sz,ks,af⟩:=gi (l:=⟨[r]⟩) (fun n hn=>by cases jL.1 hn;exact hs) hr
  obtain⟨n,F⟩:=af.all 0 (by simp)
  have hn:r=n:=by have:=F.node;injection this
  subst hn
  refine⟨?_,rfl⟩
  by_cases Y:r.Op=1
  ·exact Y
  ·by_cases J:r.Op=2\/r.Op=7
   ·have:=(F.bi J).1;omega
   ·have:=(F.un Y (fun k=>J (.inl k)) (fun k=>J (.inr k))).1;omega
 |one n p hp hs hr=>
  have:=qR hp hs hr
  exact .inr (.inl ⟨n,p,hp,hs,hr,rfl,this.2.2⟩)
 |two n p q hp hq hs hr=>exact .inr (.inr ⟨n,p,q,hp,hq,hs,hr,rfl,(At hp hq hs hr).2⟩)
def mR(items:List ai):aa:=⟨(5:Int),(0:Int),(0:Int),(0:Int),[],false,(⟨[]⟩:ai),[],[],items,[],(0:Int)⟩
def Ak{us:List Tr}(hl:us.length<=5000)(h: ∀u∈us,u.size<=1000):ck (mR (us.map cU)):=
 ⟨by simp [mR],by simp [mR],by simp [mR],by simp [mR],by simp [mR];omega,by simp [mR],by simp [mR],fun e he=>by
  obtain⟨u,hu,rfl⟩:=rC.1 he
  have:=h u hu
  simp only [cU,Tr.flat_len];omega⟩
def Ha(t x:am)(y:am)(lt:List Tr)(hlt: ∀u∈lt,u.wf/\u.size<=1000)(hll:lt.length<=1000)(I:x.root.Items=lt.map cU)(hy:x.parts=[y])(hT:ou y): ∀(tl:List ai) (out:List Tr) (z:am),(∀e∈tl,∃u,u.wf/\u.size<=1000/\e=cU u)->tl.length+out.length<=1000->(∀u∈out,u.size<=1000)->
  fb t x tl (out.map cU) z=some (t,0)\/ ∃us:List Tr,tl=us.map cU/\(∀u∈us,u.wf/\u.size<=1000/\rx lt.length u/\(pt lt u).size<=1000)/\
   fb t x tl (out.map cU) z=some (if bQ (d1 (mR ((out++us.map (pt lt)).map cU)) y.Logic)then(be (mR ((out++us.map (pt lt)).map cU)) y,1)else(zT,2))
 |[],out,z,_,hn,ho=>by
  right
  refine⟨[],rfl,by simp,?_⟩
  unfold fb
  rw [hy,show cQ [y] 0=some y from rfl]
  simp only [bt,vq,rD]
  rw [show(⟨(5:Int),(0:Int),(0:Int),(0:Int),[],false,(⟨[]⟩:ai),[],[],out.map cU,[],(0:Int)⟩:aa)=mR (out.map cU)from rfl,wM hT (Ak (by simp at hn;omega) ho)]
  cases bQ (d1 (mR (out.map cU)) y.Logic)<;>rfl
 |e::tl,out,z,he,hn,ho=>by
  obtain⟨u,hw,hs,rfl⟩:=he _ (lK ..)
  obtain⟨p,no,Y,J⟩:=ES (cU u) (by simp only [cU,Tr.flat_len];omega) lt hll hlt
  unfold fb
  rw [I,Y]
  simp only [bt]
  by_cases h0:no=0
  ·obtain⟨u',g1,g2,g3,g4⟩:=J h0
   have:iF (cU u).Nodes=some u:=np hw hs
   rw [this]at g1
   injection g1 with g1
   subst g1
   rw [bo (by simp [h0]),cC (by simp at hn ⊢;omega)]
   simp only [bt,g4]
   rw [show out.map cU++[cU (pt lt u)]=(out++[pt lt u]).map cU from by simp]
   rcases Ha t x y lt hlt hll I hy hT tl (out++[pt lt u]) z (fun e k=>he e (mZ _ k)) (by simp at hn ⊢;omega) (fun v hv=>by
    rcases pY.1 hv with k|k
    ·exact ho v k
    ·rw [jL.1 k];exact g3)with k|⟨us,k1,k2,k3⟩
   ·exact .inl k
   ·refine .inr ⟨u::us,by rw [k1];rfl,fun v hv=>?_,?_⟩
    ·rcases fT.1 hv with rfl|hv
     ·exact⟨hw,hs,g2,g3⟩
     ·exact k2 v hv
    ·rw [k3];simp
  ·left
   rw [bD (by simpa using h0)]
def qt(u:Tr):qu (cU u)=qZ u:=by
 unfold qu cU
 rw [EN]
 have:=u.size_pos
 have hl:=u.flat_len 0
 cases h:u.flat 0 with
 |nil=>rw [h]at hl;simp at hl;omega
 |cons a b=>rfl
def CL{n:aa}{x:am}(I:ou x)(hn:ck n)(hr:bQ (d1 n x.Logic)=true)(hop:n.Op=5):
  (∀d,eE (be n x) d=some (be n x,0))\/(∀d,eE (be n x) d=some (zT,2))\/
  ∃m y items,ou y/\ck m/\x=be m y/\ck (mR items)/\bQ (d1 (mR items) y.Logic)=true/\KS (be n x) (be (mR items) y)/\ ∀d,eE (be n x) d=some (be (mR items) y,1):=by
 have hrw: ∀d,eE (be n x) d=(if(!(x.root.Op !=(5:Int)))then((bM x.root.Items iD).bind fun r=>some r)else some true).bind fun t1=>
   if t1 then some (be n x,(0:Int))else fb (be n x) x n.Items ([]:List ai) zT:=fun d=>rfl
 by_cases h5:x.root.Op=5
 ·rcases zP I with⟨k,_⟩|⟨m,y,hy,hm,hry,rfl,_⟩|⟨m,p,q,_,_,_,_,rfl,k⟩
  ·omega
  ·have hop2:m.Op=5:=h5
   obtain⟨ky,_⟩:=qR hy hm hry
   obtain⟨kx,_⟩:=qR I hn hr
   obtain⟨e1,e2⟩:=s6 hop2 hm.items ky
   obtain⟨f1,f2⟩:=s6 hop hn.items kx
   -- the items, as trees
   have trees: ∀(l:List ai) (a:List Int),(∀e∈l,(gL e a).2=0)-> ∃us:List Tr,l=us.map cU/\ ∀u∈us,u.wf/\u.size<=1000:=by
    intro l a
    induction l with
    |nil=>intro _;exact⟨[],rfl,by simp⟩
    |cons e l ih=>
     intro h
     obtain⟨us,Y,J⟩:=ih fun e he=>h e (mZ _ he)
     obtain⟨u,g1,g2,g3,_⟩:=vZ (h e (lK ..))
     exact⟨u::us,by rw [Y,g3];rfl,fun v hv=>by
      rcases fT.1 hv with rfl|hv
      ·exact⟨g1,g2⟩
      ·exact J v hv⟩
   obtain⟨lt,l1,l2⟩:=trees m.Items (KF y) e2
   have hlen:lt.length<=16:=by
    have:=Dq I
    rw [e1,l1]at this
    simpa using this
   have hlen2:n.Items.length<=16:=by
    have:=Dq (ou.one n _ I hn hr)
    rw [f1]at this
    simpa using this
   have hsafe: ∀v∈m.Items,iD v=some (qu v):=fun v hv=>by
    rw [l1]at hv
    obtain⟨u,hu,rfl⟩:=rC.1 hv
    unfold iD
    rw [wC (l2 u hu).1 (l2 u hu).2,qt]
    simp
   have hroot:(be m y).root.Items=lt.map cU:=l1
   have hc:bM (be m y).root.Items iD=some (m.Items.any qu):=by
    unfold bM ei
    obtain⟨j,g1,g2⟩:=oA m.Items 0 hsafe
    rw [show(be m y).root.Items=m.Items from rfl,g1]
    simp only [bt,g2]
   cases hu:m.Items.any qu with
   |true=>
    left
    intro d
    rw [hrw,bD (by simp [h5]),hc,hu]
    rfl
   |false=>
    rcases Ha (be n (be m y)) (be m y) y lt l2 (by omega) hroot rfl hy n.Items [] zT (fun e he=>by
     obtain⟨u,g1,g2,g3,_⟩:=vZ (f2 e he)
     exact⟨u,g1,g2,g3⟩) (by simp;omega) (by simp)with k|⟨us,k1,k2,k3⟩
    ·left
     intro d
     rw [hrw,bD (by simp [h5]),hc,hu]
     exact k
    ·have hk: ∀d,eE (be n (be m y)) d=some (if bQ (d1 (mR ((us.map (pt lt)).map cU)) y.Logic)then(be (mR ((us.map (pt lt)).map cU)) y,1)else(zT,2)):=fun d=>by
      rw [hrw,bD (by simp [h5]),hc,hu]
      exact k3
     cases hR:bQ (d1 (mR ((us.map (pt lt)).map cU)) y.Logic)with
     |false=>
      right;left
      intro d
      rw [hk,hR];rfl
     |true=>
      right;right
      have hul:us.length<=16:=by rw [k1]at hlen2;simpa using hlen2
      have hsm:ck (mR ((us.map (pt lt)).map cU)):=Ak (by simp;omega) (fun v hv=>by
       obtain⟨u,hu,rfl⟩:=rC.1 hv
       exact(k2 u hu).2.2.2)
      refine⟨m,y,_,hy,hm,rfl,hsm,hR,⟨?_,?_,?_⟩,fun d=>by rw [hk,hR];rfl⟩
      ·obtain⟨kz,_⟩:=qR hy hsm hR
       obtain⟨g1,g2⟩:=s6 rfl hsm.items kz
       rw [f1,g1,k1]
       show((us.map (pt lt)).map cU).map _=_
       rw [yl,yl,yl]
       refine Bg fun u hu=>?_
       obtain⟨w1,w2,w3,w4⟩:=k2 u hu
       have a1:=(xT w1 w2 (f2 (cU u) (by rw [k1];exact rC.2 ⟨u,hu,rfl⟩))).1
       have w5:(pt lt u).wf:=Qi lt (fun t D=>(l2 t D).1) u w1 w3
       have a2:=(xT w5 w4 (g2 (cU (pt lt u)) (by
        show _∈((us.map (pt lt)).map cU)
        exact rC.2 ⟨_,rC.2 ⟨u,hu,rfl⟩,rfl⟩))).1
       have a3:=Hj lt (KF y) (KF (be m y)) (by rw [e1,l1];simp) (fun j hj=>by
        have hm2:cU lt[j]∈m.Items:=by rw [l1];exact rC.2 ⟨_,Bd hj,rfl⟩
        have:=(xT (l2 _ (Bd hj)).1 (l2 _ (Bd hj)).2 (e2 _ hm2)).1
        rw [this]
        congr 1
        simp only [e1,l1,List.getElem_map]) u w1 w3 _ a1
       rw [a2]at a3
       injection a3
      ·rw [wj (show(5:Int)≠1 by decide),wj (by omega),wj (by omega)]
      ·intro hun
       rw [rY]at hun ⊢
       rw [rY]at hun
       simp only [yZ]at hun ⊢
       refine⟨hun.1.1,?_⟩
       have hn5:n.Items.any qu=false:=by
        have:=hun.2
        unfold ww at this
        simp only [yZ]at this
        exact this.1.2
       have hlt: ∀t∈lt,qZ t=false:=fun t D=>by
        have:qu (cU t)=false:=by
         have:=List.any_eq_false.1 hu (cU t) (by rw [l1];exact rC.2 ⟨t,D,rfl⟩)
         simpa using this
        rwa [qt]at this
       show(qu ⟨[]⟩||((us.map (pt lt)).map cU).any qu||([]:List ik).any DH)=false
       have:((us.map (pt lt)).map cU).any qu=false:=List.any_eq_false.2 fun e he=>by
        obtain⟨v,hv,rfl⟩:=rC.1 he
        obtain⟨u,hu,rfl⟩:=rC.1 hv
        obtain⟨w1,w2,w3,w4⟩:=k2 u hu
        rw [qt,Hy lt hlt u w1 w3 (by
         have:=List.any_eq_false.1 hn5 (cU u) (by rw [k1];exact rC.2 ⟨u,hu,rfl⟩)
         rw [qt]at this
         simpa using this)]
        simp
       rw [this]
       rfl
  ·have:m.Op=5:=h5
   omega
 ·left
  intro d
  rw [hrw,bo (by simp [h5])]
  rfl
end Go.Proofs.YtbmmihfagmchaaaGreat

