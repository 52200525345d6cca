/- cW of this claim: E4. -/
import Derived.Test.YtbmmihfagmchaaaGreatRcE3
import Derived.Test.YtbmmihfagmchaaaGreatRcE1
set_option linter.all false
namespace Go.Proofs.YtbmmihfagmchaaaGreat
open Go

def Hn(lt:List Tr)(a ah:List Int)(hl:ah.length=lt.length)(hK: ∀j (h:j<lt.length),kd a lt[j]=some (ah[j]'(by omega))): ∀t:Tr,t.wf->rL lt.length t-> ∀k,kd ah t=some k->kd a (pt lt t)=some k
 | .lf n,hw,hc,k,h=>by
  have V:n.Tag=2->0<=n.Col:=fun J=>(qF (t:= .lf n) hw 0 (n:=dR n (-1) (-1)) (by simp [Tr.flat]) J).1
  unfold pt
  by_cases J:n.Tag=2
  ·rw [bE J]
   have h0:=V J
   have Y:n.Col<lt.length:=hc J
   have hj:n.Col.toNat<lt.length:=by omega
   unfold kd at h
   rw [bn (by omega),rg (by omega)]at h
   rw [rg hj,BK,hK _ hj]
   exact h
  ·rw [bn J]
   unfold kd at h ⊢
   by_cases Y:n.Tag=1
   ·rw [bE Y]at h ⊢;exact h
   ·exfalso
    have:pk n.Tag=some 0:=hw.1
    rcases RI this with k|k
    ·exact Y k
    ·exact J k
 | .un n x,hw,hc,k,h=>by
  unfold pt
  rw [Hm]at h ⊢
  cases I:kd ah x with
  |none=>rw [I]at h;cases h
  |some y=>
   rw [I]at h
   rw [Hn lt a ah hl hK x hw.2 hc y I]
   exact h
 | .bi n x y,hw,hc,k,h=>by
  unfold pt
  rw [EK]at h ⊢
  cases I:kd ah x with
  |none=>rw [I]at h;cases h
  |some u=>
   rw [I]at h
   rw [Hn lt a ah hl hK x hw.2.1 hc.1 u I]
   simp only [bo]at h ⊢
   cases hy:kd ah y with
   |none=>rw [hy]at h;cases h
   |some v=>
    rw [hy]at h
    rw [Hn lt a ah hl hK y hw.2.2 hc.2 v hy]
    exact h
def HC(lt:List Tr)(hlt: ∀t∈lt,qA t=false): ∀t:Tr,t.wf->rL lt.length t->qA t=false->qA (pt lt t)=false
 | .lf n,hw,hc,h=>by
  unfold pt
  split
  ·rename_i J
   have h0:0<=n.Col:=(qF (t:= .lf n) hw 0 (n:=dR n (-1) (-1)) (by simp [Tr.flat]) J).1
   have Y:n.Col<lt.length:=hc J
   rw [rg (show n.Col.toNat<lt.length by omega),BK]
   exact hlt _ (Bk _)
  ·exact h
 | .un n x,hw,hc,h=>by
  unfold pt
  simp only [qA,yZ]at h ⊢
  exact⟨HC lt hlt x hw.2 hc h.1,h.2⟩
 | .bi n x y,hw,hc,h=>by
  unfold pt
  simp only [qA,yZ]at h ⊢
  exact⟨⟨HC lt hlt x hw.2.1 hc.1 h.1.1,HC lt hlt y hw.2.2 hc.2 h.1.2⟩,h.2⟩
def Qr(n:aa)(a:List Int): ∀(tl:List ai) (i fu:Nat) (out:List Int) (ok:Bool) (k:List Int),n.Items.drop i=tl->n.Items.length<=5000->dB n a fu out ok (i:Int)=some (k,true)->ok=true/\k=out++tl.map (fun e=>(hU e a).1)/\ ∀e∈tl,(hU e a).2=0:=by
 intro tl
 induction tl with
 |nil=>
  intro i fu out ok k hd hl h
  cases fu with
  |zero=>cases h
  |succ fu=>
   have:=Fa hd
   rw [dB,bn (by simp;omega)]at h
   injection h with h
   injection h with h0 h
   simp only [jX]at h
   exact⟨h.1.1,by simp [h0],by simp⟩
 |cons x tl ih=>
  intro i fu out ok k hd hl h
  cases fu with
  |zero=>cases h
  |succ fu=>
   obtain⟨Y,J,Z⟩:=iL hd
   rw [dB,bE (by simp;omega),Y]at h
   simp only [bo,mV]at h
   cases ha:jT out [(hU x a).1]with
   |none=>rw [ha]at h;cases h
   |some o=>
    rw [ha]at h
    simp only [bo]at h
    rw [bH (by omega) (by omega),show((i:Int)+1)=((i+1:Nat):Int)from by omega]at h
    obtain⟨g1,g0,g2⟩:=ih (i+1) fu o _ k Z hl h
    simp only [jX,tE]at g1
    refine⟨g1.1,by rw [g0,GO ha];simp,fun e he=>by
     rcases gB.1 he with rfl|he
     ·exact g1.2
     ·exact g2 e he⟩
def tf{n:aa}{a b k:List Int}(hop:n.Op=5)(hl:n.Items.length<=5000)(h:bk n a b=some (k,true)):k=n.Items.map (fun e=>(hU e a).1)/\ ∀e∈n.Items,(hU e a).2=0:=by
 unfold bk at h
 rw [bn (by simp [hop]),bn (by simp [hop]),bn (by simp [hop]),bn (by simp [hop]),bE (by simp [hop])]at h
 have:=Qr n a n.Items 0 gi [] true k rfl hl h
 exact⟨by simpa using this.2.1,this.2.2⟩
def wl{e:ai}{a:List Int}(h:(hU e a).2=0): ∃t,t.wf/\t.size<=1000/\e=cV t/\iN e.Nodes=some t/\oy a.length e.Nodes=true/\kd a t=some (hU e a).1:=by
 have hr:=uE h
 have hr2:=hr
 unfold fd at hr2
 obtain⟨t,D⟩:=DH.1 hr2
 obtain⟨hw,hN,hs⟩:=i8 D
 refine⟨t,hw,hs,by unfold cV;rw [<-hN],D,?_⟩
 unfold hU at h ⊢
 rw [bE hr]at h ⊢
 split at h
 ·split at h
  ·rename_i Y J
   refine⟨J,?_⟩
   rw [bE Y,bE J]
   rw [D]at h ⊢
   simp only [bo]at h ⊢
   cases hk:kd a t with
   |none=>rw [hk]at h;simp at h
   |some k=>rfl
  ·simp at h
 ·simp at h
def xZ{u:Tr}{a:List Int}(hw:u.wf)(hs:u.size<=1000)(h:(hU (cV u) a).2=0):kd a u=some (hU (cV u) a).1/\rL a.length u:=by
 obtain⟨t,Y,J,Z,h4,h5,h6⟩:=wl h
 have:iN (cV u).Nodes=some u:=ny hw hs
 rw [this]at h4
 injection h4 with h4
 subst h4
 exact⟨h6,rM _ _ hw 0 h5⟩
def uo{t:am}(h:nh t):(t.root.Op=1/\t.parts=[])\/(∃n p,nh p/\cj n/\bS (d1 n p.Logic)=true/\t=aS n p/\n.Op≠1/\n.Op≠2/\n.Op≠7)\/(∃n p q,nh p/\nh q/\cj n/\bS (d2 n p.Logic q.Logic)=true/\t=cr n p q/\(n.Op=2\/n.Op=7)):=by
 cases h with
 |leaf r hs hA hB hr=>
  left
  obtain⟨sz,ks,ah⟩:=gL (l:=⟨[r]⟩) (fun n hn=>by cases jY.1 hn;exact hs) hr
  obtain⟨n,F⟩:=ah.all 0 (by simp)
  have hn:r=n:=by have:=F.node;injection this
  subst hn
  refine⟨?_,rfl⟩
  by_cases Y:r.Op=1
  ·exact Y
  ·by_cases J:r.Op=2\/r.Op=7
   ·have:=(F.bi J).1;omega
   ·have:=(F.un Y (fun k=>J (.inl k)) (fun k=>J (.inr k))).1;omega
 |one n p hp hs hr=>
  have:=oY hp hs hr
  exact .inr (.inl ⟨n,p,hp,hs,hr,rfl,this.2.2⟩)
 |two n p q hp hq hs hr=>exact .inr (.inr ⟨n,p,q,hp,hq,hs,hr,rfl,(x8 hp hq hs hr).2⟩)
def m0(items:List ai):aa:=⟨(5:Int),(0:Int),(0:Int),(0:Int),[],false,(⟨[]⟩:ai),[],[],items,[],(0:Int)⟩
def Aq{us:List Tr}(hl:us.length<=5000)(h: ∀u∈us,u.size<=1000):cj (m0 (us.map cV)):=
 ⟨by simp [m0],by simp [m0],by simp [m0],by simp [m0],by simp [m0];omega,by simp [m0],by simp [m0],fun e he=>by
  obtain⟨u,hu,rfl⟩:=rQ.1 he
  have:=h u hu
  simp only [cV,Tr.flat_len];omega⟩
def Hg(t x:am)(y:am)(lt:List Tr)(hlt: ∀u∈lt,u.wf/\u.size<=1000)(hll:lt.length<=1000)(I:x.root.Items=lt.map cV)(hy:x.parts=[y])(hT:nh y): ∀(tl:List ai) (out:List Tr) (z:am),(∀e∈tl,∃u,u.wf/\u.size<=1000/\e=cV u)->tl.length+out.length<=1000->(∀u∈out,u.size<=1000)->
  fv t x tl (out.map cV) z=some (t,0)\/ ∃us:List Tr,tl=us.map cV/\(∀u∈us,u.wf/\u.size<=1000/\rL lt.length u/\(pt lt u).size<=1000)/\
   fv t x tl (out.map cV) z=some (if bS (d1 (m0 ((out++us.map (pt lt)).map cV)) y.Logic)then(aS (m0 ((out++us.map (pt lt)).map cV)) y,1)else(zT,2))
 |[],out,z,_,hn,ho=>by
  right
  refine⟨[],rfl,by simp,?_⟩
  unfold fv
  rw [hy,show cU [y] 0=some y from rfl]
  simp only [bo,vH,rR]
  rw [show(⟨(5:Int),(0:Int),(0:Int),(0:Int),[],false,(⟨[]⟩:ai),[],[],out.map cV,[],(0:Int)⟩:aa)=m0 (out.map cV)from rfl,sH hT (Aq (by simp at hn;omega) ho)]
  cases bS (d1 (m0 (out.map cV)) y.Logic)<;>rfl
 |e::tl,out,z,he,hn,ho=>by
  obtain⟨u,hw,hs,rfl⟩:=he _ (mp ..)
  obtain⟨p,no,Y,J⟩:=EY (cV u) (by simp only [cV,Tr.flat_len];omega) lt hll hlt
  unfold fv
  rw [I,Y]
  simp only [bo]
  by_cases h0:no=0
  ·obtain⟨u',g1,g2,g3,g4⟩:=J h0
   have:iN (cV u).Nodes=some u:=ny hw hs
   rw [this]at g1
   injection g1 with g1
   subst g1
   rw [bn (by simp [h0]),cL (by simp at hn ⊢;omega)]
   simp only [bo,g4]
   rw [show out.map cV++[cV (pt lt u)]=(out++[pt lt u]).map cV from by simp]
   rcases Hg t x y lt hlt hll I hy hT tl (out++[pt lt u]) z (fun e k=>he e (nu _ k)) (by simp at hn ⊢;omega) (fun v hv=>by
    rcases p9.1 hv with k|k
    ·exact ho v k
    ·rw [jY.1 k];exact g3)with k|⟨us,k1,k2,k3⟩
   ·exact .inl k
   ·refine .inr ⟨u::us,by rw [k1];rfl,fun v hv=>?_,?_⟩
    ·rcases gB.1 hv with rfl|hv
     ·exact⟨hw,hs,g2,g3⟩
     ·exact k2 v hv
    ·rw [k3];simp
  ·left
   rw [bE (by simpa using h0)]
def qE(u:Tr):ui (cV u)=qA u:=by
 unfold ui cV
 rw [ES]
 have:=u.size_pos
 have hl:=u.flat_len 0
 cases h:u.flat 0 with
 |nil=>rw [h]at hl;simp at hl;omega
 |cons a b=>rfl
def wR{n:aa}{x:am}(I:nh x)(hn:cj n)(hr:bS (d1 n x.Logic)=true)(hop:n.Op=5):
  (∀d,eS (aS n x) d=some (aS n x,0))\/(∀d,eS (aS n x) d=some (zT,2))\/
  ∃m y items,nh y/\cj m/\x=aS m y/\cj (m0 items)/\bS (d1 (m0 items) y.Logic)=true/\KS (aS n x) (aS (m0 items) y)/\ ∀d,eS (aS n x) d=some (aS (m0 items) y,1):=by
 have hrw: ∀d,eS (aS n x) d=(if(!(x.root.Op !=(5:Int)))then((dc x.root.Items iK).bind fun r=>some r)else some true).bind fun t1=>
   if t1 then some (aS n x,(0:Int))else fv (aS n x) x n.Items ([]:List ai) zT:=fun d=>rfl
 by_cases h5:x.root.Op=5
 ·rcases uo I with⟨k,_⟩|⟨m,y,hy,hm,hry,rfl,_⟩|⟨m,p,q,_,_,_,_,rfl,k⟩
  ·omega
  ·have hop2:m.Op=5:=h5
   obtain⟨ky,_⟩:=oY hy hm hry
   obtain⟨kx,_⟩:=oY I hn hr
   obtain⟨e1,e2⟩:=tf hop2 hm.items ky
   obtain⟨f1,f2⟩:=tf hop hn.items kx
   -- the items, as trees
   have trees: ∀(l:List ai) (a:List Int),(∀e∈l,(hU e a).2=0)-> ∃us:List Tr,l=us.map cV/\ ∀u∈us,u.wf/\u.size<=1000:=by
    intro l a
    induction l with
    |nil=>intro _;exact⟨[],rfl,by simp⟩
    |cons e l ih=>
     intro h
     obtain⟨us,Y,J⟩:=ih fun e he=>h e (nu _ he)
     obtain⟨u,g1,g2,g3,_⟩:=wl (h e (mp ..))
     exact⟨u::us,by rw [Y,g3];rfl,fun v hv=>by
      rcases gB.1 hv with rfl|hv
      ·exact⟨g1,g2⟩
      ·exact J v hv⟩
   obtain⟨lt,l1,l2⟩:=trees m.Items (KF y) e2
   have hlen:lt.length<=16:=by
    have:=A8 I
    rw [e1,l1]at this
    simpa using this
   have hlen2:n.Items.length<=16:=by
    have:=A8 (nh.one n _ I hn hr)
    rw [f1]at this
    simpa using this
   have hsafe: ∀v∈m.Items,iK v=some (ui v):=fun v hv=>by
    rw [l1]at hv
    obtain⟨u,hu,rfl⟩:=rQ.1 hv
    unfold iK
    rw [uT (l2 u hu).1 (l2 u hu).2,qE]
    simp
   have hroot:(aS m y).root.Items=lt.map cV:=l1
   have hc:dc (aS m y).root.Items iK=some (m.Items.any ui):=by
    unfold dc gm
    obtain⟨j,g1,g2⟩:=rO m.Items 0 hsafe
    rw [show(aS m y).root.Items=m.Items from rfl,g1]
    simp only [bo,g2]
   cases hu:m.Items.any ui with
   |true=>
    left
    intro d
    rw [hrw,bE (by simp [h5]),hc,hu]
    rfl
   |false=>
    rcases Hg (aS n (aS m y)) (aS m y) y lt l2 (by omega) hroot rfl hy n.Items [] zT (fun e he=>by
     obtain⟨u,g1,g2,g3,_⟩:=wl (f2 e he)
     exact⟨u,g1,g2,g3⟩) (by simp;omega) (by simp)with k|⟨us,k1,k2,k3⟩
    ·left
     intro d
     rw [hrw,bE (by simp [h5]),hc,hu]
     exact k
    ·have hk: ∀d,eS (aS n (aS m y)) d=some (if bS (d1 (m0 ((us.map (pt lt)).map cV)) y.Logic)then(aS (m0 ((us.map (pt lt)).map cV)) y,1)else(zT,2)):=fun d=>by
      rw [hrw,bE (by simp [h5]),hc,hu]
      exact k3
     cases hR:bS (d1 (m0 ((us.map (pt lt)).map cV)) y.Logic)with
     |false=>
      right;left
      intro d
      rw [hk,hR];rfl
     |true=>
      right;right
      have hul:us.length<=16:=by rw [k1]at hlen2;simpa using hlen2
      have hsm:cj (m0 ((us.map (pt lt)).map cV)):=Aq (by simp;omega) (fun v hv=>by
       obtain⟨u,hu,rfl⟩:=rQ.1 hv
       exact(k2 u hu).2.2.2)
      refine⟨m,y,_,hy,hm,rfl,hsm,hR,⟨?_,?_,?_⟩,fun d=>by rw [hk,hR];rfl⟩
      ·obtain⟨kz,_⟩:=oY hy hsm hR
       obtain⟨g1,g2⟩:=tf rfl hsm.items kz
       rw [f1,g1,k1]
       show((us.map (pt lt)).map cV).map _=_
       rw [yq,yq,yq]
       refine Bn fun u hu=>?_
       obtain⟨w1,w2,w3,w4⟩:=k2 u hu
       have a1:=(xZ w1 w2 (f2 (cV u) (by rw [k1];exact rQ.2 ⟨u,hu,rfl⟩))).1
       have w5:(pt lt u).wf:=Ql lt (fun t D=>(l2 t D).1) u w1 w3
       have a2:=(xZ w5 w4 (g2 (cV (pt lt u)) (by
        show _∈((us.map (pt lt)).map cV)
        exact rQ.2 ⟨_,rQ.2 ⟨u,hu,rfl⟩,rfl⟩))).1
       have a3:=Hn lt (KF y) (KF (aS m y)) (by rw [e1,l1];simp) (fun j hj=>by
        have hm2:cV lt[j]∈m.Items:=by rw [l1];exact rQ.2 ⟨_,Bk hj,rfl⟩
        have:=(xZ (l2 _ (Bk hj)).1 (l2 _ (Bk hj)).2 (e2 _ hm2)).1
        rw [this]
        congr 1
        simp only [e1,l1,List.getElem_map]) u w1 w3 _ a1
       rw [a2]at a3
       injection a3
      ·rw [wu (show(5:Int)≠1 by decide),wu (by omega),wu (by omega)]
      ·intro hun
       rw [sk]at hun ⊢
       rw [sk]at hun
       simp only [yZ]at hun ⊢
       refine⟨hun.1.1,?_⟩
       have hn5:n.Items.any ui=false:=by
        have:=hun.2
        unfold zN at this
        simp only [yZ]at this
        exact this.1.2
       have hlt: ∀t∈lt,qA t=false:=fun t D=>by
        have:ui (cV t)=false:=by
         have:=List.any_eq_false.1 hu (cV t) (by rw [l1];exact rQ.2 ⟨t,D,rfl⟩)
         simpa using this
        rwa [qE]at this
       show(ui ⟨[]⟩||((us.map (pt lt)).map cV).any ui||([]:List gQ).any Lz)=false
       have:((us.map (pt lt)).map cV).any ui=false:=List.any_eq_false.2 fun e he=>by
        obtain⟨v,hv,rfl⟩:=rQ.1 he
        obtain⟨u,hu,rfl⟩:=rQ.1 hv
        obtain⟨w1,w2,w3,w4⟩:=k2 u hu
        rw [qE,HC lt hlt u w1 w3 (by
         have:=List.any_eq_false.1 hn5 (cV u) (by rw [k1];exact rQ.2 ⟨u,hu,rfl⟩)
         rw [qE]at this
         simpa using this)]
        simp
       rw [this]
       rfl
  ·have:m.Op=5:=h5
   omega
 ·left
  intro d
  rw [hrw,bn (by simp [h5])]
  rfl
end Go.Proofs.YtbmmihfagmchaaaGreat

