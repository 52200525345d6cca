/- cP of this claim: E8. -/
import Derived.Test.YtbmmihfagmchaaaGreatRbE7
set_option linter.all false
namespace Go.Proofs.YtbmmihfagmchaaaGreat
open Go

structure Fh(p:am)(us:List Tr)(r:am):Prop where
 kinds:KF r=KF p
 tabs:TB r=TB p
 safe:UN p=false->(∀u∈us,qZ u=false)->UN r=false
def Fh.nil(p:am):Fh p [] p:=⟨rfl,rfl,fun h _=>h⟩
def Ry{u:Tr}{us:List Tr}(h:pJ (u::us))(k: ∀v∈u::us,qZ v=false):ww (nF (cU (iP u us)))=false:=by rw [G1];exact Pu h k
def Fh.one{p:am}{u:Tr}{us:List Tr}(hp:ou p)(h:pJ (u::us))(hr:bQ (d1 (nF (cU (iP u us))) p.Logic)=true):ou (be (nF (cU (iP u us))) p)/\Fh p (u::us) (be (nF (cU (iP u us))) p):=by
 have hs:ck (nF (cU (iP u us))):=um (by rw [oo];have:=(uZ h).2.2.1;omega)
 have k:=sx hp hs hr rfl
 exact⟨.one _ p hp hs hr,k.kinds.symm,k.tabs.symm,fun Y J=>by rw [rY,Y,Ry h J];rfl⟩
def rW(rec:GL){p:am}(hp:ou p){u:Tr}{us:List Tr}(h:pJ (u::us))(d:Bool):cv rec p ((u::us).map cU) d=
  if bQ (d1 (nF (cU (iP u us))) p.Logic)then(if d then jV rec (be (nF (cU (iP u us))) p)else some (be (nF (cU (iP u us))) p,true))else some (zT,false):=by
 obtain⟨Y,J,Z,h4⟩:=uZ h
 unfold cv
 rw [bo (by simp;omega),Y]
 simp only [bt]
 rw [show(⟨(3:Int),(0:Int),(0:Int),(0:Int),[],false,cU (iP u us),[],[],[],[],(0:Int)⟩:aa)=nF (cU (iP u us))from rfl,wM hp (um (by rw [oo];omega))]
 simp only [bt]
 cases bQ (d1 (nF (cU (iP u us))) p.Logic)with
 |false=>rfl
 |true=>cases d<;>simp [AS]
def Pw(k:Nat):Prop:= ∀t,ou t->t.Logic.Nodes.length<=k->(∀p∈t.parts,NF p)-> ∃r b,(∀f n z,k+1<=f->k+5<=n->dE (bG f) n t z=some (r,b))/\(b=true->NF r/\KS t r)
def vl{k:Nat}(IH:Pw k)(hk2:k<=100){p:am}(hp:NF p)(hk:p.Logic.Nodes.length+1<=k){us:List Tr}(h:pJ us): ∃r b,(∀f,k+1<=f->cv (bG f) p (us.map cU) true=some (r,b))/\(b=true->NF r/\Fh p us r):=by
 cases us with
 |nil=>exact⟨p,true,fun f _=>rfl,fun _=>⟨hp,Fh.nil p⟩⟩
 |cons u us=>
  cases hr:bQ (d1 (nF (cU (iP u us))) p.Logic)with
  |false=>exact⟨zT,false,fun f _=>by rw [rW _ hp.tok h,hr];rfl,fun k=>by cases k⟩
  |true=>
   obtain⟨hT,hF⟩:=Fh.one hp.tok h hr
   obtain⟨r,b,Y,J⟩:=IH _ hT (by show(d1 _ _).Nodes.length<=k;rw [o0];exact hk) (fun q hq=>by
    have:q=p:=jL.1 hq
    rw [this];exact hp)
   refine⟨r,b,fun f X=>?_,fun V=>?_⟩
   ·rw [rW _ hp.tok h,hr]
    simp only [fP]
    unfold jV
    exact Y f fQ _ X (by have:=jk (n:=k+5) (by omega);exact this)
   ·obtain⟨g1,g2⟩:=J V
    exact⟨g1,g2.kinds.trans hF.kinds,g2.tabs.trans hF.tabs,fun a b=>g2.safe (hF.safe a b)⟩
def FU(rec:GL)(t x p q z:am)(d:Bool)(A B C:List ai):fH rec t d x [A,B,C] [p,q] 0 [] z=
  (cv rec p A d).bind fun r5=>if(!r5.2)then some (t,(2:Int))else
   (cv rec q B d).bind fun r6=>if(!r6.2)then some (t,(2:Int))else
    (dV (nJ x.root.Left x.root.Cond) [r5.1,r6.1]).bind fun r2=>if(!r2.2)then some (t,(2:Int))else
     (cv rec r2.1 C false).bind fun r3=>(ia r3.1 r3.2).bind fun r4=>some (r4.1,r4.2):=by
 unfold fH
 rw [show cQ [A,B,C] ((0:Nat):Int)=some A from rfl,bt]
 refine congrArg _ (funext fun r5=>?_)
 by_cases h5:(!r5.2)=true
 ·rw [bD h5,bD h5]
 ·rw [bo h5,bo h5,show jp ([]:List am) [r5.1]=some [r5.1]from rfl,bt]
  unfold fH
  rw [show cQ [A,B,C] ((0+1:Nat):Int)=some B from rfl,bt]
  refine congrArg _ (funext fun r6=>?_)
  by_cases h6:(!r6.2)=true
  ·rw [bD h6,bD h6]
  ·rw [bo h6,bo h6,show jp [r5.1] [r6.1]=some [r5.1,r6.1]from rfl,bt]
   unfold fH
   refine congrArg _ (funext fun r2=>?_)
   by_cases J:(!r2.2)=true
   ·rw [bD J,bD J]
   ·rw [bo J,bo J,show cQ [A,B,C] (2:Int)=some C from rfl,bt]
def FV(rec:GL){n m:aa}{p q:am}(hp:ou p)(d:Bool)(A B C:List ai)(hA:A.length<=2000)(hB:B.length<=2000)(hsd:mK n.Cond ((KF p).length:Int) m.Left=some [A,B,C]):
  gc rec (be n (cO m p q)) d=if A=[]/\B=[]then some (be n (cO m p q),0)else fH rec (be n (cO m p q)) d (cO m p q) [A,B,C] [p,q] 0 [] zT:=by
 unfold gc
 rw [show cQ (be n (cO m p q)).parts (0:Int)=some (cO m p q)from rfl,bt,
  show cQ (cO m p q).parts (0:Int)=some p from rfl,bt,A2 hp,bt]
 rw [show(be n (cO m p q)).root.Cond=n.Cond from rfl,show(cO m p q).root.Left=m.Left from rfl,hsd,bt,
  show cQ [A,B,C] (0:Int)=some A from rfl,bt,show cQ [A,B,C] (1:Int)=some B from rfl,bt,bB (by omega) (by omega)]
 by_cases h:A=[]/\B=[]
 ·rw [bD h,bD (by rw [h.1,h.2];rfl)]
 ·rw [bo h,bo (by
   intro k
   have k:=eq_of_beq k
   exact h ⟨List.length_eq_zero_iff.1 (by omega),List.length_eq_zero_iff.1 (by omega)⟩)]
  rfl
def Jt{c:Tr}(hw:c.wf)(hs:c.size<=1000)(left:Nat)(hl:left<=16)(outer:Bool):mK (cU c) (left:Int) outer=some [(sA (left:Int) (ev c)).map cU,(sB (left:Int) outer (ev c)).map cU,(sC (left:Int) outer (ev c)).map cU]:=by
 have hP:=vU hw hs
 have hz:=Cf c
 unfold mK
 rw [C9 _ (by rw [oo];omega),show iF (cU c).Nodes=some c from np hw hs,bt]
 have:=DP (left:Int) (by omega) outer (ev c) [] [] [] (fun u hu=>⟨(hP.wf u hu).1,(hP.wf u hu).2.1⟩) (by simp;omega)
 simpa using this
def xM(rec:GL){n m:aa}{p q:am}{c:Tr}(hp:ou p)(hw:c.wf)(hs:c.size<=1000)(hc:n.Cond=cU c)(d:Bool):
  gc rec (be n (cO m p q)) d=if(sA ((KF p).length:Int) (ev c))=[]/\(sB ((KF p).length:Int) m.Left (ev c))=[]then some (be n (cO m p q),0)else
   (cv rec p ((sA ((KF p).length:Int) (ev c)).map cU) d).bind fun r5=>if(!r5.2)then some (be n (cO m p q),(2:Int))else
    (cv rec q ((sB ((KF p).length:Int) m.Left (ev c)).map cU) d).bind fun r6=>if(!r6.2)then some (be n (cO m p q),(2:Int))else
     (dV (nJ m.Left m.Cond) [r5.1,r6.1]).bind fun r2=>if(!r2.2)then some (be n (cO m p q),(2:Int))else
      (cv rec r2.1 ((sC ((KF p).length:Int) m.Left (ev c)).map cU) false).bind fun r3=>(ia r3.1 r3.2).bind fun r4=>some (r4.1,r4.2):=by
 have hkl:=Dq hp
 have hP:=vU hw hs
 have lA:=(hP.a ((KF p).length:Int)).sum
 have lB:=(hP.b (left:=((KF p).length:Int)) (by omega) m.Left).sum
 rw [FV rec hp d _ _ _ (by rw [zl];omega) (by rw [zl];omega) (hc▸Jt hw hs _ hkl m.Left),FU]
 generalize sA ((KF p).length:Int) (ev c)=A
 generalize sB ((KF p).length:Int) m.Left (ev c)=B
 by_cases h:A=[]/\B=[]
 ·rw [bD h,bD (by rw [h.1,h.2];exact⟨rfl,rfl⟩)]
 ·rw [bo h,bo (by rw [List.map_eq_nil_iff,List.map_eq_nil_iff];exact h)]
  rfl
end Go.Proofs.YtbmmihfagmchaaaGreat

