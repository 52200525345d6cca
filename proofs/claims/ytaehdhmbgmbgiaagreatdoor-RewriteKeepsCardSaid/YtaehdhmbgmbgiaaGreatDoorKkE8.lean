import Derived.Test.YtaehdhmbgmbgiaaGreatDoorKkE7
set_option linter.all false
namespace Go.Proofs.YtaehdhmbgmbgiaaGreatDoor
open Go
structure Filt(p:aB)(us:List Tr)(r:aB):Prop where
 v':KF r=KF p
 agw:TB r=TB p
 safe:UN p=false->(∀u∈us,Eg u=false)->UN r=false
def tU(rec:NL){p:aB}(hp:pc p){u:Tr}{us:List Tr}(h:wd (u::us))(d:Bool):dE rec p ((u::us).map cS) d=
  if ci (d1 (nF (cS (il u us))) p.D')then(if d then pP rec (bE (nF (cS (il u us))) p)else some (bE (nF (cS (il u us))) p,true))else some (zT,false):=by
 obtain⟨I,M,h3,h4⟩:=AU h;unfold dE;rw [aR (by simp;omega),I];simp only [bw];rw [show(⟨(3:Int),(0:Int),(0:Int),(0:Int),[],false,cS (il u us),[],[],[],[],(0:Int)⟩:ai)=nF (cS (il u us))from rfl,CK hp (vA (by rw [nj];omega))];simp only [bw]
 cases ci (d1 (nF (cS (il u us))) p.D')with
 |false=>rfl
 |true=>cases d<;>simp [MC]
def Ur(rec:NL)(t x p q z:aB)(d:Bool)(A B C:List au):j4 rec t d x [A,B,C] [p,q] 0 [] z=
  (dE rec p A d).bind fun r5=>if(!r5.2)then some (t,(2:Int))else
   (dE rec q B d).bind fun r6=>if(!r6.2)then some (t,(2:Int))else
    (gZ (nJ x.root.Left x.root.J') [r5.1,r6.1]).bind fun r2=>if(!r2.2)then some (t,(2:Int))else
     (dE rec r2.1 C false).bind fun r3=>(mQ r3.1 r3.2).bind fun r4=>some (r4.1,r4.2):=by
 unfold j4;rw [show cO [A,B,C] ((0:Nat):Int)=some A from rfl,bw];refine congrArg _ (funext fun r5=>?_);by_cases h5:(!r5.2)=true
 ·rw [bz h5,bz h5]
 ·rw [aR h5,aR h5,show app ([]:List aB) [r5.1]=some [r5.1]from rfl,bw];unfold j4;rw [show cO [A,B,C] ((0+1:Nat):Int)=some B from rfl,bw];refine congrArg _ (funext fun r6=>?_);by_cases h6:(!r6.2)=true
  ·rw [bz h6,bz h6]
  ·rw [aR h6,aR h6,show app [r5.1] [r6.1]=some [r5.1,r6.1]from rfl,bw];unfold j4;refine congrArg _ (funext fun r2=>?_);by_cases M:(!r2.2)=true
   ·rw [bz M,bz M]
   ·rw [aR M,aR M,show cO [A,B,C] (2:Int)=some C from rfl,bw]
def Us(rec:NL){n m:ai}{p q:aB}(hp:pc p)(d:Bool)(A B C:List au)(hA:A.length<=2000)(hB:B.length<=2000)(hsd:tM n.J' ((KF p).length:Int) m.Left=some [A,B,C]):
  jF rec (bE n (dg m p q)) d=if A=[]/\B=[]then some (bE n (dg m p q),0)else j4 rec (bE n (dg m p q)) d (dg m p q) [A,B,C] [p,q] 0 [] zT:=by
 unfold jF;rw [show cO (bE n (dg m p q)).parts (0:Int)=some (dg m p q)from rfl,bw,
  show cO (dg m p q).parts (0:Int)=some p from rfl,bw,abJ hp,bw]
 rw [show(bE n (dg m p q)).root.J'=n.J' from rfl,show(dg m p q).root.Left=m.Left from rfl,hsd,bw,
  show cO [A,B,C] (0:Int)=some A from rfl,bw,show cO [A,B,C] (1:Int)=some B from rfl,bw,cB (by omega) (by omega)]
 by_cases h:A=[]/\B=[]
 ·rw [bz h,bz (by rw [h.1,h.2];rfl)]
 ·rw [aR h,aR (by
   intro k;have k:=eq_of_beq k;exact h ⟨List.length_eq_zero_iff.1 (by omega),List.length_eq_zero_iff.1 (by omega)⟩)]
  rfl
def Zu{c:Tr}(hw:c.wf)(hs:c.size<=1000)(left:Nat)(hl:left<=16)(outer:Bool):tM (cS c) (left:Int) outer=some [(sA (left:Int) (dN c)).map cS,(sB (left:Int) outer (dN c)).map cS,(sC (left:Int) outer (dN c)).map cS]:=by
 have hP:=ut hw hs;have hz:=O7 c;unfold tM;rw [QH _ (by rw [nj];omega),show ll (cS c).j'=some c from rY hw hs,bw];have:=RH (left:Int) (by omega) outer (dN c) [] [] [] (fun u hu=>⟨(hP.wf u hu).1,(hP.wf u hu).2.1⟩) (by simp;omega);simpa using this
def Dt(rec:NL){n m:ai}{p q:aB}{c:Tr}(hp:pc p)(hw:c.wf)(hs:c.size<=1000)(hc:n.J'=cS c)(d:Bool):
  jF rec (bE n (dg m p q)) d=if(sA ((KF p).length:Int) (dN c))=[]/\(sB ((KF p).length:Int) m.Left (dN c))=[]then some (bE n (dg m p q),0)else
   (dE rec p ((sA ((KF p).length:Int) (dN c)).map cS) d).bind fun r5=>if(!r5.2)then some (bE n (dg m p q),(2:Int))else
    (dE rec q ((sB ((KF p).length:Int) m.Left (dN c)).map cS) d).bind fun r6=>if(!r6.2)then some (bE n (dg m p q),(2:Int))else
     (gZ (nJ m.Left m.J') [r5.1,r6.1]).bind fun r2=>if(!r2.2)then some (bE n (dg m p q),(2:Int))else
      (dE rec r2.1 ((sC ((KF p).length:Int) m.Left (dN c)).map cS) false).bind fun r3=>(mQ r3.1 r3.2).bind fun r4=>some (r4.1,r4.2):=by
 have hkl:=FH hp;have hP:=ut hw hs;have lA:=(hP.a ((KF p).length:Int)).sum;have lB:=(hP.b (left:=((KF p).length:Int)) (by omega) m.Left).sum;rw [Us rec hp d _ _ _ (by rw [Am];omega) (by rw [Am];omega) (hc▸Zu hw hs _ hkl m.Left),Ur];generalize sA ((KF p).length:Int) (dN c)=A;generalize sB ((KF p).length:Int) m.Left (dN c)=B;by_cases h:A=[]/\B=[]
 ·rw [bz h,bz (by rw [h.1,h.2];exact⟨rfl,rfl⟩)]
 ·rw [aR h,aR (by rw [List.map_eq_nil_iff,List.map_eq_nil_iff];exact h)];rfl
