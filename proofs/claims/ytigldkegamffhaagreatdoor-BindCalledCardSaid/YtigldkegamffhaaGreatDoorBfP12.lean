/- de of this claim: P12. -/
import Derived.Test.YtigldkegamffhaaGreatDoorBfBC
set_option linter.all false
set_option linter.unusedVariables false
namespace Go.Proofs.YtigldkegamffhaaGreatDoor
open Go
set_option maxRecDepth 100000

def NZ:TI aY 54 1 8 false [.pointer none]:=⟨by kernel_rfl,by kernel_rfl⟩
def abk p y n{R}(h:oM p y n=some R):dZ aY 3 [K cn p,K bk y,K DC n] (mb R):=by
 refine fc Tryz.func3 I<|bA<|eA I<|eA I<|eA I<|cJ<|co<|bN<|jE h cb4 abj trivial fun r h=>Q (m9 (M I))<|co<|tX (M I) (fun hc=>?_) (fun hc=>?_)
 ·have h:=ct h hc;exact bA<|cJ<|fh<|an<|so h▸aT I I
 ·have h:=cf h hc;refine nG<|aE<|cV h fun r1 q_r1 h=>cV h fun r2 q_r2 h=>?_
  refine Nv 6 [tc (K cn p),tc (K cn r1),tc (K bk y),tc (K bk r2),([4],fun s=>Z (al ((s.getD 0 oA).h 0).2 0)),([5],fun s=>Z (al ((s.getD 0 oA).h 0).2 0))] [false,false,false,false,true,true] [([],fun _=>[]),([4],fun sg=>[bx cn 24 ((sg 4).h 0).2 J2]),([5],fun sg=>[bx bk 28 ((sg 5).h 0).2 Ar]),([4,5],fun sg=>[bx bk 28 ((sg 5).h 0).2 Ar,bx cn 24 ((sg 4).h 0).2 J2])] (fun _=>I) mixed I I I I
   ⟨⟨[⟨3,fun _=>bt cn p,none⟩],_,[[],[4],[5],[4,5]],I,⟨(fun _=>I),J⟩,I,I,I,I,I,⟨fun sg=>aK I (wx uu I I),fun sg=>aK I (wx uu I I),fun sg=>aK I (wx uu I I),fun sg=>aK I (wx uu I I),J⟩⟩,
   ⟨⟨[⟨31,fun _=>K cn p,some 0⟩],_,[[],[4],[5],[4,5]],I,⟨(fun _=>I),J⟩,I,I,I,I,I,⟨fun sg=>aK I (bH cb5 (Re _ q_r1) ⟨(M I),J⟩),fun sg=>aK I (bH cb5 (Re _ q_r1) ⟨(M I),J⟩),fun sg=>aK I (bH cb5 (Re _ q_r1) ⟨(M I),J⟩),fun sg=>aK I (bH cb5 (Re _ q_r1) ⟨(M I),J⟩),J⟩⟩,
   ⟨⟨[⟨4,fun _=>bt bk y,none⟩],_,[[],[4],[5],[4,5]],I,⟨(fun _=>I),J⟩,I,I,I,I,I,⟨fun sg=>aK I (wx qo I I),fun sg=>aK I (wx qo I I),fun sg=>aK I (wx qo I I),fun sg=>aK I (wx qo I I),J⟩⟩,
   ⟨⟨[⟨33,fun _=>K bk y,some 2⟩],_,[[],[4],[5],[4,5]],I,⟨(fun _=>I),J⟩,I,I,I,I,I,⟨fun sg=>aK I (bH cb6 (Rd _ q_r2) ⟨(M I),J⟩),fun sg=>aK I (bH cb6 (Rd _ q_r2) ⟨(M I),J⟩),fun sg=>aK I (bH cb6 (Rd _ q_r2) ⟨(M I),J⟩),fun sg=>aK I (bH cb6 (Rd _ q_r2) ⟨(M I),J⟩),J⟩⟩,
   ⟨⟨[],_,[([],[4]),([5],[4,5])],I,J,I,I,I,I,I,⟨fun sg=>bL I (oT uu rp),fun sg=>bL I (EffOK.post_imp (post:=fun x__=>(fun(sg:Nat->OI)=>[bx cn 24 ((sg 4).h 0).2 J2,bx bk 28 ((sg 5).h 0).2 Ar]) (upd sg 4 x__)) (oT uu rp) (fun h=>du.pick [1,0] I h)),J⟩⟩,
   ⟨⟨[],_,[([],[5]),([4],[4,5])],I,J,I,I,I,I,I,⟨fun sg=>bL I (oT qo wb),fun sg=>bL I (oT qo wb),J⟩⟩,
   J⟩⟩⟩⟩⟩⟩ (fun sg=>?_)
  refine(show RG _ _ _ _ [_,_] _ from ?_);refine cY<|cG uu ak I<|a8 7 I<|cG qo ak I<|a8 8 I<|co<|bA<|d5 uu I<|d5 qo I<|jE h cb7 (Rc _ _) (gm I) fun r3 h=>bC I<|fI I I<|fI I I<|fI I I<|ba pi pg I fun b=>cG pi ak I<|a8 9 I<|lI I<|bP I ?_;refine bN<|bC I<|mp I<|co<|tX (M I) (fun hc=>?_) (fun hc=>?_)
  ·have h:=ct h hc;exact bA<|cJ<|fh<|an<|so h▸aT I I
  ·have h:=cf h hc;refine nG<|bA<|cV h fun e q_e h=>Q (AS Ce er I (M I) hI q_e)<|d5 er I<|Q (wR tn IS (M I))<|cU qK pQ Bh I<|dr u0 I<|Q (wR tn IS (M I))<|cV h fun u q_u h=>Q (Ut (M I) (M I) (QM q_u))<|Q (wR IS tn (M I))<|bP I<|bA<|d5 qo I<|cV h fun r4 q_r4 h=>cV h fun s q_s h=>cV h fun u1 q_u1 h=>?_
   have hJ1:s.Joins.length<=1000:=by by_cases k:s.Joins.length<=1000<;>simp_all
   obtain⟨_,hs0⟩:=eM q_s
   refine uT [] _ I cb6 (acG _ _ q_r4 hs0) ⟨(M I),J⟩ I fun iv=>?_
   obtain⟨iv,os0,hos⟩:=iv
   dsimp only
   generalize hix:IntKind.i64.wrap ((IntKind.u64.wrap e).tmod (IntKind.u64.wrap (r2.Selects.length:Int)))=ix at h q_s hs0 ⊢
   generalize iv.h 0=aS
   generalize iv.h 1=aI
   generalize iv.h 2=aJ
   generalize iv.h 3=aG
   have hg:ep (os0.set ix.toNat (wX aI aJ aG s)) ix=some (wX aI aJ aG s):=tL (eM q_s).1 (by rw [hos];exact(o5.1 hs0).1)
   have hol:r4.Selects.length=(os0.set ix.toNat (wX aI aJ aG s)).length:=by rw [vW];exact hos.symm
   generalize os0.set ix.toNat (wX aI aJ aG s)=os at hg hol ⊢
   refine Q (Ks (v:=Y aS.1 aS.2 r4.Selects.length) (Uw (show O9 aY 28 0=some (25,0) by kernel_rfl) Bh I I I oO (M I)))<|bC I<|Q (bo u0 oF (.head _) (M I) (M I) hg hol)<|bP I<|aQ I<|Q (fC (.head _) hg (M I))<|Q (aW (o:=ix.toNat*9+0) (n:=ix.toNat*9+3) Pg I (.head _) hg (M I) I)<|jw (r:=rP) (ys:=Ln aS aJ ix.toNat 0) (xs:=[.tmp 60]) F8 NZ I I I I I ⟨hP (M I),J⟩ I fun l0 c0=>bP I<|bN<|bC I<|Q (fC (.tail _ (.head _)) hg (M I))<|Q (aW (o:=ix.toNat*9+0) (n:=ix.toNat*9+5) pR I (.tail _ (.head _)) hg (M I) I)<|Q (Ks (v:=Y aJ.1 aJ.2 s.Joins.length) (cb (r:=av) (q:=rV) (i:=ix) (foff:=5) yD I I im I (.tail _ (.head _)) hg (M I)))<|Q (fa vH (.tail _ (.tail _ (.tail _ (.head _)))) (M I))<|Q (bG hI) ?_;refine co<|am<|fQ (.tail _ (.tail _ (.tail _ (.head _)))) fun hN=>cc ?_;refine aP (sM (tV:=fun ls i l c=>s.Joins.drop i=ls/\i<=s.Joins.length) (Of:=fun _ i l c=>dv rP 54 l c (Ln aS aJ ix.toNat i)::dv av 53 aS.1 aS.2 os::G3 aI aJ aG s) (Gf:=fun _ i l c=>[(5,bt DC n),(7,bt cn r1),(8,bt bk r2),(9,bt cP r3.1),(12,br ix),(13,Z (bh aS.1 (ix.toNat*9+0))),(14,Z (Y l c (Ln aS aJ ix.toNat i).length)),(65,uZ aJ.1 aJ.2 s.Joins),(66,mY s.Joins),(67,br (i:Int))]) (fun i l c A=>?_) (fun b tl ih i l c A=>?_) s.Joins 0 l0 c0 ⟨I,jv _⟩) (bO I)
   ·obtain⟨D,hle⟩:=A
    refine fH D I<|aC ?_
    have hil:=Rm D hle
    subst hil
    refine aQ I<|cV h fun e1 q_e1 h=>Q (AS Ce er I (M I) hI q_e1)<|d5 er I<|Q (wR tn IS (M I))<|bC I<|Q (fa F8 (.head _) (M I))<|Q (wR tn IS (M I)) ?_
    have hl:=Wx aS aJ ix.toNat s
    rw [<-hl]at h
    refine cV h fun u2 q_u2 h=>Q (Ut (M I) (M I) (QM q_u2))<|Q (wR IS tn (M I))<|cV h fun x q_x h=>?_
    generalize IntKind.i64.wrap ((IntKind.u64.wrap e1).tmod (IntKind.u64.wrap ((Ln aS aJ ix.toNat s.Joins.length).length:Int)))=w at h q_x ⊢
    obtain⟨hw,hx0⟩:=Ov (aS:=aS) (aJ:=aJ) (ix:=ix.toNat) q_x
    refine Q (bo F8 NZ (.head _) (M I) (M I) hw)<|Q (aaP (cb (r:=rP) (q:=rP) (get:=fun x=>x) (i:=w) (foff:=0) NZ I I cg I (.head _) hw (M I)))<|bP I<|aQ I<|Q (Cs (.tail _ (.head _)) (.tail _ (.tail _ (.tail _ (.head _)))) hg hx0 (M I))<|Q (Cu Es I (.tail _ (.head _)) (.tail _ (.tail _ (.tail _ (.head _)))) hg hx0 (M I))<|Q (Ct (off:=1) mT I I sD I (.tail _ (.head _)) (.tail _ (.tail _ (.tail _ (.head _)))) hg hx0 (M I))<|bP I ?_;refine oZ (tV:=fun was=>was=xx x) (Of:=fun _=>dv rP 54 l c (Ln aS aJ ix.toNat s.Joins.length)::dv av 53 aS.1 aS.2 os::G3 aI aJ aG s) (Gf:=fun was=>[(5,bt DC n),(7,bt cn r1),(8,bt bk r2),(9,bt cP r3.1),(12,br ix),(13,Z (bh aS.1 (ix.toNat*9+0))),(14,Z (Y l c (Ln aS aJ ix.toNat s.Joins.length).length)),(16,Z (bh (mt aS aJ ix.toNat w.toNat).1 (mt aS aJ ix.toNat w.toNat).2)),(17,K rS was)]) (fun was hwas=>?_) (fun tD=>?_)
    ·subst hwas
     refine bN<|bC I<|Q (fa F8 (.head _) (M I))<|Q (bG hI)<|co<|am<|cc ?_;refine aP (gG (tV:=fun ls i=>(rd s).drop i=ls/\eU r1 r2 r3.1 ix s w.toNat x ls=some R) (Of:=fun _ i=>dv rP 54 l c (Ln aS aJ ix.toNat s.Joins.length)::dv av 53 aS.1 aS.2 os::G3 aI aJ aG s) (Gf:=fun _ i=>[(5,bt DC n),(7,bt cn r1),(8,bt bk r2),(9,bt cP r3.1),(12,br ix),(13,Z (bh aS.1 (ix.toNat*9+0))),(16,Z (bh (mt aS aJ ix.toNat w.toNat).1 (mt aS aJ ix.toNat w.toNat).2)),(17,K rS (xx x)),(102,Z (Y l c (Ln aS aJ ix.toNat s.Joins.length).length)),(103,br ((Ln aS aJ ix.toNat s.Joins.length).length:Int)),(104,br (i:Int))]) (fun i A=>?_) (fun b tl ih i A=>?_) (rd s) 0 ⟨I,h⟩) (bO I)
     ·obtain⟨D,h⟩:=A
      refine d7<|bA<|uq I<|co<|aE<|lb (M I) (by rw [hl];exact Da D)<|gH<|aH<|aH<|dA<|aC ?_
      replace h:kr r1 r2 r3.1 ix (jc s w.toNat) (xx x)=some R:=YU h
      refine bA<|ny<|bC I<|Q (Cs (.head _) (.tail _ (.tail _ (.head _))) hg hx0 (M I))<|Q (Cu Es I (.head _) (.tail _ (.tail _ (.head _))) hg hx0 (M I))<|Nh mT I hg hx0 (M I) hZ ?_
      have hg1:ep (os.set ix.toNat (wX aI aJ aG (jc s w.toNat))) ix=some (wX aI aJ aG (jc s w.toNat)):=tL (eM hg).1 (o5.1 (eM hg).2).1
      generalize os.set ix.toNat (wX aI aJ aG (jc s w.toNat))=os1 at hg1 ⊢
      generalize jc s w.toNat=s1 at h hg1 ⊢
      generalize xx x=was at h ⊢
      refine co<|cV h fun l1 q_l1 h=>bN<|bC I<|Q (fC (.head _) hg1 (M I))<|Q (aW (o:=ix.toNat*9+0) (n:=ix.toNat*9+2) pb I (.head _) hg1 (M I) I)<|Q (Ks (v:=Y aI.1 aI.2 s1.Items.length) (cb (r:=av) (q:=rV) (i:=ix) (foff:=2) At I I ka I (.head _) hg1 (M I)))<|Q (fa sQ (.tail _ (.head _)) (M I))<|Q (bG hI)<|co<|am<|fQ (.tail _ (.head _)) fun hN1=>cc ?_;refine aP (gY (tV:=fun ls i its=>its.drop i=ls/\i<=its.length/\its.length=s1.Items.length/\ ∃l2,CE was ls=some l2/\its.take i++l2=l1) (Of:=fun _ i its=>dv av 53 aS.1 aS.2 os1::dv cv 59 aI.1 aI.2 its::dv cz 57 aJ.1 aJ.2 s1.Joins::dv cK 62 aG.1 aG.2 s1.Group::[]) (Gf:=fun _ i its=>[(7,bt cn r1),(8,bt bk r2),(9,bt cP r3.1),(12,br ix),(13,Z (bh aS.1 (ix.toNat*9+0))),(17,K rS was),(127,uZ aI.1 aI.2 s1.Items),(128,mY s1.Items),(129,br (i:Int))]) (fun i its A=>?_) (fun b tl ih i its A=>?_) s1.Items 0 s1.Items ⟨I,jv _,I,l1,q_l1,I⟩) (bO I)
      ·obtain⟨D,hle,hln,l2,hl2,hfin⟩:=A
       refine d7<|bA<|uq I<|co<|aE<|lb (M I) (by rw [<-hln];exact Da D)<|gH<|aH<|aH<|dA<|aC ?_
       have hil:=Rm D hle
       have hl1:its=l1:=by cases so hl2;rw [<-hfin,hil];simp
       subst hl1
       refine cV h fun l4 q_l4 h=>bN<|bC I<|Q (fC (.head _) hg1 (M I))<|Q (aW (o:=ix.toNat*9+0) (n:=ix.toNat*9+5) pR I (.head _) hg1 (M I) I)<|Q (Ks (v:=Y aJ.1 aJ.2 s1.Joins.length) (cb (r:=av) (q:=rV) (i:=ix) (foff:=5) yD I I im I (.head _) hg1 (M I)))<|Q (fa vH (.tail _ (.tail _ (.head _))) (M I))<|Q (bG hI)<|co<|am<|fQ (.tail _ (.tail _ (.head _))) fun hN2=>cc ?_
       clear hfin hl2 D hil
       refine aP (gY (tV:=fun ls i js=>js.drop i=ls/\i<=js.length/\js.length=s1.Joins.length/\ ∃l2,CD was ls=some l2/\js.take i++l2=l4) (Of:=fun _ i js=>dv av 53 aS.1 aS.2 os1::dv cv 59 aI.1 aI.2 its::dv cz 57 aJ.1 aJ.2 js::dv cK 62 aG.1 aG.2 s1.Group::[]) (Gf:=fun _ i js=>[(7,bt cn r1),(8,bt bk r2),(9,bt cP r3.1),(12,br ix),(13,Z (bh aS.1 (ix.toNat*9+0))),(17,K rS was),(149,uZ aJ.1 aJ.2 s1.Joins),(150,mY s1.Joins),(151,br (i:Int))]) (fun i js A=>?_) (fun b tl ih i js A=>?_) s1.Joins 0 s1.Joins ⟨I,jv _,I,l4,q_l4,I⟩) (bO I)
       ·obtain⟨D,hle,hljn,l2,hl2,hfin⟩:=A
        refine d7<|bA<|uq I<|co<|aE<|lb (M I) (by rw [<-hljn];exact Da D)<|gH<|aH<|aH<|dA<|aC ?_
        have hil:=Rm D hle
        have hl1:js=l4:=by cases so hl2;rw [<-hfin,hil];simp
        subst hl1
        refine bN<|bC I<|Q (fC (.head _) hg1 (M I))<|Q (aW (o:=ix.toNat*9+0) (n:=ix.toNat*9+8) vQ I (.head _) hg1 (M I) I)<|Q (Ks (v:=Y aG.1 aG.2 s1.Group.length) (cb (r:=av) (q:=rV) (i:=ix) (foff:=8) Cq I I vq I (.head _) hg1 (M I)))<|Q (fa Cc (.tail _ (.tail _ (.tail _ (.head _)))) (M I))<|Q (bG hI)<|co<|am<|fQ (.tail _ (.tail _ (.tail _ (.head _)))) fun hN3=>cc ?_
        clear hfin hl2 D hil hle
        refine aP (gY (tV:=fun ls i gs=>gs.drop i=ls/\i<=gs.length/\gs.length=s1.Group.length/\gs.take i++ls.map (uy was)=s1.Group.map (uy was)) (Of:=fun _ i gs=>dv av 53 aS.1 aS.2 os1::dv cv 59 aI.1 aI.2 its::dv cz 57 aJ.1 aJ.2 js::dv cK 62 aG.1 aG.2 gs::[]) (Gf:=fun _ i gs=>[(7,bt cn r1),(8,bt bk r2),(9,bt cP r3.1),(12,br ix),(13,Z (bh aS.1 (ix.toNat*9+0))),(17,K rS was),(171,uZ aG.1 aG.2 s1.Group),(172,mY s1.Group),(173,br (i:Int))]) (fun i gs A=>?_) (fun b tl ih i gs A=>?_) s1.Group 0 s1.Group ⟨I,jv _,I,I⟩) (bO I)
        ·obtain⟨D,hle,hlgn,hfin⟩:=A
         refine d7<|bA<|uq I<|co<|aE<|lb (M I) (by rw [<-hlgn];exact Da D)<|gH<|aH<|aH<|dA<|aC ?_
         have hgs:gs=s1.Group.map (uy was):=by rw [<-hfin,Rm D hle];simp
         refine cV h fun wh q_wh h=>cV h fun hv q_hv h=>aE ?_
         refine fY 17 [tc (Z (bh aS.1 (ix.toNat*9+0))),tc (Z (bh aS.1 (ix.toNat*9+0))),tc (Z (bh aS.1 (ix.toNat*9+0))),tc (Z (bh aS.1 (ix.toNat*9+0))),tc (Z (bh aS.1 (ix.toNat*9+6))),tc (K aX s1.Where),tc (K rS was),tc (K aX wh),tc (Z (bh aS.1 (ix.toNat*9+0))),tc (Z (bh aS.1 (ix.toNat*9+0))),tc (Z (bh aS.1 (ix.toNat*9+7))),tc (K aX s1.Having),tc (K rS was),tc (K aX hv),tc (Z (bh aS.1 (ix.toNat*9+0))),tc (Z (bh aS.1 (ix.toNat*9+6))),tc (tw)] [false,false,false,false,false,false,false,false,false,false,false,false,false,false,false,false,true] [fun _=>dv av 53 aS.1 aS.2 os1::dv cv 59 aI.1 aI.2 its::dv cz 57 aJ.1 aJ.2 js::dv cK 62 aG.1 aG.2 gs::[],fun _=>dv av 53 aS.1 aS.2 (os1.set ix.toNat (wX aI aJ aG ({s1 with Where:=wh}:ae)))::dv cv 59 aI.1 aI.2 its::dv cz 57 aJ.1 aJ.2 js::dv cK 62 aG.1 aG.2 gs::[]] I mixed I I I I I
          ⟨⟨[⟨13,fun _=>Z (bh aS.1 (ix.toNat*9+0)),none⟩],_,0,0,I,⟨(fun _=>I),J⟩,I,I,I,I,I,fun _ sg _ _=>aK I (jM I)⟩,
          ⟨⟨[⟨13,fun _=>Z (bh aS.1 (ix.toNat*9+0)),none⟩],_,0,1,I,⟨(fun _=>I),J⟩,I,I,I,I,I,fun _ sg _ _=>aK I (jM I)⟩,
          ⟨⟨[⟨13,fun _=>Z (bh aS.1 (ix.toNat*9+0)),none⟩],_,0,0,I,⟨(fun _=>I),J⟩,I,I,I,I,I,fun _ sg _ _=>aK I (jM I)⟩,
          ⟨⟨[⟨192,fun _=>Z (bh aS.1 (ix.toNat*9+0)),some 2⟩],_,0,0,I,⟨(fun _=>I),J⟩,I,I,I,I,I,dX (fun sg=>aK I (fC (.head _) hg1 (M I)))⟩,
          ⟨⟨[⟨193,fun _=>Z (bh aS.1 (ix.toNat*9+0)),some 3⟩],_,0,0,I,⟨(fun _=>I),J⟩,I,I,I,I,I,dX (fun sg=>aK I (aW (o:=ix.toNat*9+0) (n:=ix.toNat*9+6) xj I (.head _) hg1 (M I) I))⟩,
          ⟨⟨[⟨194,fun _=>Z (bh aS.1 (ix.toNat*9+6)),some 4⟩],_,0,0,I,⟨(fun _=>I),J⟩,I,I,I,I,I,dX (fun sg=>aK I (cb (r:=av) (i:=ix) (foff:=6) ic I I qI I (.head _) hg1 (M I)))⟩,
          ⟨⟨[⟨17,fun _=>K rS was,none⟩],_,0,0,I,⟨(fun _=>I),J⟩,I,I,I,I,I,fun _ sg _ _=>aK I (jM I)⟩,
          ⟨⟨[⟨195,fun _=>K aX s1.Where,some 5⟩,⟨196,fun _=>K rS was,some 6⟩],_,0,0,I,⟨(fun _=>I),(fun _=>I),J⟩,I,I,I,I,I,fun _ sg _ _=>aK I (bH cb8 (Rb _ _ _ q_wh) ⟨(M I),(M I),hZ,J⟩)⟩,
          ⟨⟨[⟨13,fun _=>Z (bh aS.1 (ix.toNat*9+0)),none⟩],_,0,0,I,⟨(fun _=>I),J⟩,I,I,I,I,I,fun _ sg _ _=>aK I (jM I)⟩,
          ⟨⟨[⟨198,fun _=>Z (bh aS.1 (ix.toNat*9+0)),some 8⟩],_,0,0,I,⟨(fun _=>I),J⟩,I,I,I,I,I,dX (fun sg=>aK I (fC (.head _) hg1 (M I)))⟩,
          ⟨⟨[⟨199,fun _=>Z (bh aS.1 (ix.toNat*9+0)),some 9⟩],_,0,0,I,⟨(fun _=>I),J⟩,I,I,I,I,I,dX (fun sg=>aK I (aW (o:=ix.toNat*9+0) (n:=ix.toNat*9+7) vR I (.head _) hg1 (M I) I))⟩,
          ⟨⟨[⟨200,fun _=>Z (bh aS.1 (ix.toNat*9+7)),some 10⟩],_,0,0,I,⟨(fun _=>I),J⟩,I,I,I,I,I,dX (fun sg=>aK I (cb (r:=av) (i:=ix) (foff:=7) ic I I qH I (.head _) hg1 (M I)))⟩,
          ⟨⟨[⟨17,fun _=>K rS was,none⟩],_,0,0,I,⟨(fun _=>I),J⟩,I,I,I,I,I,fun _ sg _ _=>aK I (jM I)⟩,
          ⟨⟨[⟨201,fun _=>K aX s1.Having,some 11⟩,⟨202,fun _=>K rS was,some 12⟩],_,0,0,I,⟨(fun _=>I),(fun _=>I),J⟩,I,I,I,I,I,fun _ sg _ _=>aK I (bH cb8 (Rb _ _ _ q_hv) ⟨(M I),(M I),hZ,J⟩)⟩,
          ⟨⟨[⟨190,fun _=>Z (bh aS.1 (ix.toNat*9+0)),some 0⟩],_,0,0,I,⟨(fun _=>I),J⟩,I,I,I,I,I,dX (fun sg=>aK I (fC (.head _) hg1 (M I)))⟩,
          ⟨⟨[⟨204,fun _=>Z (bh aS.1 (ix.toNat*9+0)),some 14⟩],_,0,0,I,⟨(fun _=>I),J⟩,I,I,I,I,I,dX (fun sg=>aK I (aW (o:=ix.toNat*9+0) (n:=ix.toNat*9+6) xj I (.head _) hg1 (M I) I))⟩,
          ⟨⟨[⟨205,fun _=>Z (bh aS.1 (ix.toNat*9+6)),some 15⟩,⟨197,fun _=>K aX wh,some 7⟩],_,I,⟨(fun _=>I),(fun _=>I),J⟩,I,I,I,fun sg=>bL I (rK (r:=av) (i:=ix) (foff:=6) ic I qr I hg1 I (M I) (M I))⟩,
          J⟩⟩⟩⟩⟩⟩⟩⟩⟩⟩⟩⟩⟩⟩⟩⟩⟩ (fun sg=>?_)
         have hgW:ep (os1.set ix.toNat (wX aI aJ aG ({s1 with Where:=wh}:ae))) ix=some (wX aI aJ aG ({s1 with Where:=wh}:ae)):=tL (eM hg1).1 (o5.1 (eM hg1).2).1
         generalize os1.set ix.toNat (wX aI aJ aG ({s1 with Where:=wh}:ae))=os2 at hgW ⊢
         refine Q (fC (.head _) hgW (M I))<|Q (aW (o:=ix.toNat*9+0) (n:=ix.toNat*9+7) vR I (.head _) hgW (M I) I)<|ir (r:=av) (i:=ix) (foff:=7) (zs:=os2.set ix.toNat (wX aI aJ aG ({({s1 with Where:=wh}:ae)with Having:=hv}:ae))) ic I qq I hgW I (M I) (M I) ?_
         have hg3:ep (os2.set ix.toNat (wX aI aJ aG ({({s1 with Where:=wh}:ae)with Having:=hv}:ae))) ix=some (wX aI aJ aG ({({s1 with Where:=wh}:ae)with Having:=hv}:ae)):=tL (eM hgW).1 (o5.1 (eM hgW).2).1
         generalize os2.set ix.toNat (wX aI aJ aG ({({s1 with Where:=wh}:ae)with Having:=hv}:ae))=os3 at hg3 ⊢
         refine co<|bA<|cY<|jr<|gw<|jr<|jq<|jr<|d5 qo I ?_
         unfold mi at h
         refine cV h fun r5 q_r5 h=>cV h fun e5 q_e5 h=>uT [] _ I cb6 (acH _ q_r5) ⟨(M I),J⟩ I fun iv=>?_
         generalize iv.h 0=a5
         refine(show RG _ _ _ _ (dv aR 53 a5.1 a5.2 r5.Selects::d cK 62 aG.1 aG.2 gs::d cz 57 aJ.1 aJ.2 js::d cv 59 aI.1 aI.2 its::dv av 53 aS.1 aS.2 os3::[]) _ from ?_);refine ba (r:=cH) (x:=dd Ar (Y none 0 (([]:List ae).length))) qo NH I fun b5=>fv (r' :=cH) qo I (fB I) I (M I) (M I)<|co<|aE ?_
         refine oz 7 (ts:=[Z (al b5 0),uZ a5.1 a5.2 r5.Selects,br ix,Z (bh aS.1 (ix.toNat*9+0)),Z (bh aS.1 (ix.toNat*9+0)),K aR (⟨s1.Distinct,s1.Star,its,s1.From,js,wh,hv,gs⟩:ae),Z (bh a5.1 (ix.toNat*9+0))]) mixed I I I
          ⟨DF 26 I I (qX 0 qK I I I),
          ⟨mU 210 0 I I (fg Bh oO (.head _) I (M I)),
          ⟨kO I I,
          ⟨kO I I,
          ⟨mU 213 3 I I (fC (.tail _ (.tail _ (.tail _ (.tail _ (.tail _ (.head _)))))) hg3 (M I)),
          ⟨mU 214 4 I I (Sr (r:=av) (q:=aR) (i:=ix) oF I I I (.tail _ (.tail _ (.tail _ (.tail _ (.tail _ (.head _)))))) hg3 (fun _ _ _ ho k=>acL (s2:=({({s1 with Where:=wh}:ae)with Having:=hv}:ae)) ho (.tail _ (.tail _ (.tail _ (.tail _ (.head _))))) (.tail _ (.tail _ (.tail _ (.head _)))) (.tail _ (.tail _ (.head _))) hln hljn hlgn k) (M I)),
          ⟨ma 211 1 212 2 I I I (bo u0 oF (.tail _ (.head _)) (M I) (M I) q_e5),
          J⟩⟩⟩⟩⟩⟩⟩ ?_
         refine cY<|ir (r:=aR) (i:=ix) (foff:=0) (zs:=r5.Selects.set ix.toNat (⟨s1.Distinct,s1.Star,its,s1.From,js,wh,hv,gs⟩:ae)) oF I ak I q_e5 I (M I) (M I)<|co<|bA<|jr<|d5 uu I<|Q (oa (q:=bk) (y:=({r5 with Selects:=r5.Selects.set ix.toNat (⟨s1.Distinct,s1.Star,its,s1.From,js,wh,hv,gs⟩:ae)}:be)) qo I I I I (.tail _ (.head _)) (fun _ _ _ ho k=>xQ (by have:=ly ho (.head _);rw [vW]at this;exact this) k) (M I)) ?_
         rw [hgs]at*
         refine jE h cb7 (Rc _ _) (gm I) fun r6 h=>bC I<|fI I I<|fI I I<|fI I I<|ba pi pg I fun b6=>cG pi ak I<|a8 27 I<|lI I<|bP I ?_
         obtain⟨rb,hrb,hR⟩:=YS h
         refine aQ I<|jK I<|bC I<|aB I (fun hgd=>wx pi I I)<|aB I (fun hgd=>wx pi I I)<|aB I (fun hgd=>bH cb9 (abb _ _ (hrb hgd)) ⟨(df I hgd),(df I hgd),J⟩)<|j5 I<|bF I ?_
         subst hR
         exact aT I I
        ·obtain⟨D,hle,hln,hfin⟩:=A
         refine d7<|bA<|uq I<|co<|aE<|la (M I) (by rw [<-hln];exact zm D)<|nG<|aE<|am<|aQ I<|Q (iw Cc yd (.tail _ (.tail _ (.tail _ (.head _)))) (M I) (M I) (d6 D) (by rw [<-hln];exact nl D))<|Q (cb (r:=cK) (i:=(i:Int)) (foff:=0) yd I I cg I (.tail _ (.tail _ (.tail _ (.head _)))) (d6 D) (M I))<|ba yd Cm I fun bb=>lI I<|cG yd ak I<|a8 25 I<|co<|aE ?_;refine aO<|cU KR z7 mT I<|bC I<|Q (na (M I) (M I))<|co<|tX (M I) (fun hc=>?_) (fun hc=>?_)
         ·refine aO<|bC I<|Q (fC (.head _) hg1 (M I))<|Q (aW (o:=ix.toNat*9+0) (n:=ix.toNat*9+8) vQ I (.head _) hg1 (M I) I)<|Q (Ks (v:=Y aG.1 aG.2 s1.Group.length) (cb (r:=av) (q:=rV) (i:=ix) (foff:=8) Cq I I vq I (.head _) hg1 (M I)))<|bC I<|Q (bo Cc yd (.tail _ (.tail _ (.tail _ (.head _)))) (M I) (M I) (d6 D) hln.symm)<|Q (aW (o:=(i:Int).toNat*2+0) (n:=(i:Int).toNat*2+0) KR I (.tail _ (.tail _ (.tail _ (.head _)))) (d6 D) (M I) I)<|jq<|ir (r:=cK) (v:=u5) (i:=(i:Int)) (foff:=0) mT I DW I (d6 D) I (M I) hZ<|jq<|jq<|jq ?_
          obtain⟨g1,g2⟩:=GE (b2:={b with Table:=u5}) D
          rw [wy]
          refine bu<|bW<|aC<|aO<|Q (mh (A1 D (by rw [hln];exact hN3)) (M I) hI)<|bC I<|bu ?_;exact bl (aP (ih (i+1) _ ⟨g1,by rw [vW];exact EJ.1 (nl D),by rw [vW];exact hln,by rw [g2,<-hfin,pE,show uy was b={b with Table:=u5}from bv hc];simp⟩) (bO I))
         ·refine ck<|bW<|aC<|aO<|Q (mh (A1 D (by rw [hln];exact hN3)) (M I) hI)<|bC I<|bu ?_;exact bl (aP (ih (i+1) gs ⟨eg D,EJ.1 (nl D),hln,by rw [RT D,<-hfin,pE,show uy was b=b from bm (by rw [hc];decide)];simp⟩) (bO I))
       ·obtain⟨D,hle,hln,l2,hl2,hfin⟩:=A
        refine d7<|bA<|uq I<|co<|aE<|la (M I) (by rw [<-hln];exact zm D)<|nG<|aE<|am<|cV hl2 fun t q_t hl2=>cV hl2 fun l3 q_l3 hl2=>?_;cases so hl2;refine aQ I<|Q (iw vH sU (.tail _ (.tail _ (.head _))) (M I) (M I) (d6 D) (by rw [<-hln];exact nl D))<|Q (cb (r:=cz) (i:=(i:Int)) (foff:=0) sU I I cg I (.tail _ (.tail _ (.head _))) (d6 D) (M I))<|ba sU Cn I fun bb=>lI I<|cG sU ak I<|a8 23 I<|co ?_
        refine oz 11 (ts:=[Z (bh aS.1 (ix.toNat*9+0)),Z (bh aS.1 (ix.toNat*9+0)),Z (bh aS.1 (ix.toNat*9+5)),uZ aJ.1 aJ.2 s1.Joins,br (i:Int),bt aX b.On,K aX b.On,K rS was,K aX t,Z (bh aJ.1 ((i:Int).toNat*4+0)),Z (bh aJ.1 ((i:Int).toNat*4+3))]) mixed I I I
         ⟨kO I I,
         ⟨mU 156 0 I I (fC (.head _) hg1 (M I)),
         ⟨mU 157 1 I I (aW (o:=ix.toNat*9+0) (n:=ix.toNat*9+5) pR I (.head _) hg1 (M I) I),
         ⟨mU 158 2 I I (Ks (v:=Y aJ.1 aJ.2 s1.Joins.length) (cb (r:=av) (q:=rV) (i:=ix) (foff:=5) yD I I im I (.head _) hg1 (M I))),
         ⟨kO I I,
         ⟨DF 23 I I (AC ze wq I I),
         ⟨wc 5 ic I I,
         ⟨kO I I,
         ⟨ma 162 6 163 7 I I I (bH cb8 (Rb _ _ _ q_t) ⟨(M I),(M I),hZ,J⟩),
         ⟨ma 159 3 160 4 I I I (bo vH sU (.tail _ (.tail _ (.head _))) (M I) (M I) (d6 D) hln.symm),
         ⟨mU 165 9 I I (aW (o:=(i:Int).toNat*4+0) (n:=(i:Int).toNat*4+3) ze I (.tail _ (.tail _ (.head _))) (d6 D) (M I) I),
         J⟩⟩⟩⟩⟩⟩⟩⟩⟩⟩⟩ ?_
        refine gw<|ir (r:=cz) (i:=(i:Int)) (foff:=3) ic I DX I (d6 D) I (M I) (M I)<|gw<|gw ?_
        obtain⟨g1,g2⟩:=GE (b2:={b with On:=t}) D
        rw [wy]
        refine bu<|bW<|aC<|aO<|Q (mh (A1 D (by rw [hln];exact hN2)) (M I) hI)<|bC I<|bu ?_;exact bl (aP (ih (i+1) _ ⟨g1,by rw [vW];exact EJ.1 (nl D),by rw [vW];exact hln,l3,q_l3,by rw [g2];simpa using hfin⟩) (bO I))
      ·obtain⟨D,hle,hln,l2,hl2,hfin⟩:=A
       refine d7<|bA<|uq I<|co<|aE<|la (M I) (by rw [<-hln];exact zm D)<|nG<|aE<|am<|cV hl2 fun t q_t hl2=>cV hl2 fun l3 q_l3 hl2=>?_;cases so hl2;refine aQ I<|Q (iw sQ oE (.tail _ (.head _)) (M I) (M I) (d6 D) (by rw [<-hln];exact nl D))<|Q (cb (r:=cv) (i:=(i:Int)) (foff:=0) oE I I cg I (.tail _ (.head _)) (d6 D) (M I))<|ba oE u6 I fun bb=>lI I<|cG oE ak I<|a8 21 I<|co ?_
       refine oz 11 (ts:=[Z (bh aS.1 (ix.toNat*9+0)),Z (bh aS.1 (ix.toNat*9+0)),Z (bh aS.1 (ix.toNat*9+2)),uZ aI.1 aI.2 s1.Items,br (i:Int),bt aX b.Tree,K aX b.Tree,K rS was,K aX t,Z (bh aI.1 ((i:Int).toNat*2+0)),Z (bh aI.1 ((i:Int).toNat*2+0))]) mixed I I I
        ⟨kO I I,
        ⟨mU 134 0 I I (fC (.head _) hg1 (M I)),
        ⟨mU 135 1 I I (aW (o:=ix.toNat*9+0) (n:=ix.toNat*9+2) pb I (.head _) hg1 (M I) I),
        ⟨mU 136 2 I I (Ks (v:=Y aI.1 aI.2 s1.Items.length) (cb (r:=av) (q:=rV) (i:=ix) (foff:=2) At I I ka I (.head _) hg1 (M I))),
        ⟨kO I I,
        ⟨DF 21 I I (AC te oP I I),
        ⟨wc 5 ic I I,
        ⟨kO I I,
        ⟨ma 140 6 141 7 I I I (bH cb8 (Rb _ _ _ q_t) ⟨(M I),(M I),hZ,J⟩),
        ⟨ma 137 3 138 4 I I I (bo sQ oE (.tail _ (.head _)) (M I) (M I) (d6 D) hln.symm),
        ⟨mU 143 9 I I (aW (o:=(i:Int).toNat*2+0) (n:=(i:Int).toNat*2+0) te I (.tail _ (.head _)) (d6 D) (M I) I),
        J⟩⟩⟩⟩⟩⟩⟩⟩⟩⟩⟩ ?_
       refine cY<|ir (r:=cv) (i:=(i:Int)) (foff:=0) ic I zM I (d6 D) I (M I) (M I)<|cY ?_
       obtain⟨g1,g2⟩:=GE (b2:={b with Tree:=t}) D
       rw [wy]
       refine bu<|bW<|aC<|aO<|Q (mh (A1 D (by rw [hln];exact hN1)) (M I) hI)<|bC I<|bu ?_;exact bl (aP (ih (i+1) _ ⟨g1,by rw [vW];exact EJ.1 (nl D),by rw [vW];exact hln,l3,q_l3,by rw [g2];simpa using hfin⟩) (bO I))
     ·obtain⟨D,h⟩:=A
      refine d7<|bA<|uq I<|co<|aE<|la (M I) (by rw [hl];exact zm D)<|nG<|aE<|am ?_
      obtain⟨hwi,hxi⟩:=Ov (aS:=aS) (aJ:=aJ) (ix:=ix.toNat) (d6 D)
      refine bA<|Q (bo F8 NZ (.head _) (M I) (M I) hwi)<|Q (aaP (cb (r:=rP) (q:=rP) (get:=fun x=>x) (i:=(i:Int)) (foff:=0) NZ I I cg I (.head _) hwi (M I)))<|bP I<|aQ I<|Q (Cs (.tail _ (.head _)) (.tail _ (.tail _ (.tail _ (.head _)))) hg hxi (M I))<|Q (Cu Es I (.tail _ (.head _)) (.tail _ (.tail _ (.tail _ (.head _)))) hg hxi (M I))<|Q (Ct (off:=1) mT I I sD I (.tail _ (.head _)) (.tail _ (.tail _ (.tail _ (.head _)))) hg hxi (M I))<|Q (na (M I) hS)<|bC I<|bY I (gB I)<|bY I (fun hgd=>Cs (.tail _ (.head _)) (.tail _ (.tail _ (.tail _ (.head _)))) hg hxi (df I hgd))<|bY I (fun hgd=>Cu HH I (.tail _ (.head _)) (.tail _ (.tail _ (.tail _ (.head _)))) hg hxi (df I hgd))<|bY I (fun hgd=>Ct (off:=0) mT I I sE I (.tail _ (.head _)) (.tail _ (.tail _ (.tail _ (.head _)))) hg hxi (df I hgd))<|bY I (fun hgd=>na (df I hgd) hS)<|ph I<|co<|tX (M I) (fun hc=>?_) (fun hc=>?_)
      ·have hR:=YT h hc
       refine bA<|cJ<|fh<|ej<|an<|ej ?_
       subst hR
       exact aT I I
      ·have h:=aaX h hc
       refine ck<|bW<|aC<|aO<|Q (mh (EJ.1 (Int.lt_of_lt_of_le (nl D) (by have:=YI s hJ1;omega))) (M I) hI)<|bC I<|bu ?_;exact bl (aP (ih (i+1) ⟨eg D,h⟩) (bO I))
    ·refine aQ I<|Q (na (M I) hS)<|co<|tX (M I) (fun hc=>?_) (fun hc=>?_)
     ·refine aO<|bC I<|Q (Cs (.tail _ (.head _)) (.tail _ (.tail _ (.tail _ (.head _)))) hg hx0 (M I))<|Q (Cu HH I (.tail _ (.head _)) (.tail _ (.tail _ (.tail _ (.head _)))) hg hx0 (M I))<|Q (Ct (off:=0) mT I I sE I (.tail _ (.head _)) (.tail _ (.tail _ (.tail _ (.head _)))) hg hx0 (M I))<|lI I<|bu ?_;exact ed (tD x.Table (bv hc).symm) (bO I)
     ·refine ck ?_;exact ed (tD x.As (bm (by rw [hc];decide)).symm) (bO I)
   ·obtain⟨D,_⟩:=A
    refine fG D I<|aE<|am<|aQ I<|bP I<|aO<|bC I<|bC I<|Q (fC (.tail _ (.head _)) hg (M I))<|Q (aW (o:=ix.toNat*9+0) (n:=ix.toNat*9+5) pR I (.tail _ (.head _)) hg (M I) I)<|Q (Ks (v:=Y aJ.1 aJ.2 s.Joins.length) (cb (r:=av) (q:=rV) (i:=ix) (foff:=5) yD I I im I (.tail _ (.head _)) hg (M I))) ?_;refine bC I<|Q (bo vH sU (.tail _ (.tail _ (.tail _ (.head _)))) (M I) (M I) (d6 D))<|Q (aW (o:=(i:Int).toNat*4+0) (n:=i*4+1) Pf I (.tail _ (.tail _ (.tail _ (.head _)))) (d6 D) (M I) I)<|Q (bI (r:=rP) (ys:=[mt aS aJ ix.toNat (i+1)]) (xs:=[.tmp 77]) F8 NZ I I I I I ⟨hP (M I),J⟩) ?_
    have happ:lr (Ln aS aJ ix.toNat i) [mt aS aJ ix.toNat (i+1)]=some (Ln aS aJ ix.toNat (i+1)):=by
     have hi:=zm D
     rw [mo]at hi
     unfold lr
     rw [bv (by simp [Ln];omega),Um]
    refine gM NZ I I I I F8 I I (M I) (M I) happ fun l1 c1=>lI I<|bu<|eP D hN I ?_;exact bl (aP (ih (i+1) l1 c1 ⟨eg D,EJ.1 (nl D)⟩) (bO I))
end Go.Proofs.YtigldkegamffhaaGreatDoor

