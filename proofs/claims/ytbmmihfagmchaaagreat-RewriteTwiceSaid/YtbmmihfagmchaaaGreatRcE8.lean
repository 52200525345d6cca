/- cW of this claim: E8. -/
import Derived.Test.YtbmmihfagmchaaaGreatRcE7
set_option linter.all false
namespace Go.Proofs.YtbmmihfagmchaaaGreat
open Go

structure Dy(p:am)(us:List Tr)(r:am):Prop where
 kinds:KF r=KF p
 tabs:TB r=TB p
 safe:UN p=false->(∀u∈us,qA u=false)->UN r=false
def Dy.nil(p:am):Dy p [] p:=⟨rfl,rfl,fun h _=>h⟩
def Rz{u:Tr}{us:List Tr}(h:oJ (u::us))(k: ∀v∈u::us,qA v=false):zN (nF (cV (iR u us)))=false:=by rw [G7];exact Px h k
def Dy.one{p:am}{u:Tr}{us:List Tr}(hp:nh p)(h:oJ (u::us))(hr:bS (d1 (nF (cV (iR u us))) p.Logic)=true):nh (aS (nF (cV (iR u us))) p)/\Dy p (u::us) (aS (nF (cV (iR u us))) p):=by
 have hs:cj (nF (cV (iR u us))):=sK (by rw [mF];have:=(ve h).2.2.1;omega)
 have k:=sM hp hs hr rfl
 exact⟨.one _ p hp hs hr,k.kinds.symm,k.tabs.symm,fun Y J=>by rw [sk,Y,Rz h J];rfl⟩
def pn(rec:BG){p:am}(hp:nh p){u:Tr}{us:List Tr}(h:oJ (u::us))(d:Bool):cq rec p ((u::us).map cV) d=
  if bS (d1 (nF (cV (iR u us))) p.Logic)then(if d then j8 rec (aS (nF (cV (iR u us))) p)else some (aS (nF (cV (iR u us))) p,true))else some (zT,false):=by
 obtain⟨Y,J,Z,h4⟩:=ve h
 unfold cq
 rw [bn (by simp;omega),Y]
 simp only [bo]
 rw [show(⟨(3:Int),(0:Int),(0:Int),(0:Int),[],false,cV (iR u us),[],[],[],[],(0:Int)⟩:aa)=nF (cV (iR u us))from rfl,sH hp (sK (by rw [mF];omega))]
 simp only [bo]
 cases bS (d1 (nF (cV (iR u us))) p.Logic)with
 |false=>rfl
 |true=>cases d<;>simp [AY]
def Pz(k:Nat):Prop:= ∀t,nh t->t.Logic.Nodes.length<=k->(∀p∈t.parts,NF p)-> ∃r b,(∀f n z,k+1<=f->k+5<=n->dN (bz f) n t z=some (r,b))/\(b=true->NF r/\KS t r)
def vC{k:Nat}(IH:Pz k)(hk2:k<=100){p:am}(hp:NF p)(hk:p.Logic.Nodes.length+1<=k){us:List Tr}(h:oJ us): ∃r b,(∀f,k+1<=f->cq (bz f) p (us.map cV) true=some (r,b))/\(b=true->NF r/\Dy p us r):=by
 cases us with
 |nil=>exact⟨p,true,fun f _=>rfl,fun _=>⟨hp,Dy.nil p⟩⟩
 |cons u us=>
  cases hr:bS (d1 (nF (cV (iR u us))) p.Logic)with
  |false=>exact⟨zT,false,fun f _=>by rw [pn _ hp.tok h,hr];rfl,fun k=>by cases k⟩
  |true=>
   obtain⟨hT,hF⟩:=Dy.one hp.tok h hr
   obtain⟨r,b,Y,J⟩:=IH _ hT (by show(d1 _ _).Nodes.length<=k;rw [ow];exact hk) (fun q hq=>by
    have:q=p:=jY.1 hq
    rw [this];exact hp)
   refine⟨r,b,fun f X=>?_,fun V=>?_⟩
   ·rw [pn _ hp.tok h,hr]
    simp only [gu]
    unfold j8
    exact Y f gi _ X (by have:=i6 (n:=k+5) (by omega);exact this)
   ·obtain⟨g1,g2⟩:=J V
    exact⟨g1,g2.kinds.trans hF.kinds,g2.tabs.trans hF.tabs,fun a b=>g2.safe (hF.safe a b)⟩
def FY(rec:BG)(t x p q z:am)(d:Bool)(A B C:List ai):fW rec t d x [A,B,C] [p,q] 0 [] z=
  (cq rec p A d).bind fun r5=>if(!r5.2)then some (t,(2:Int))else
   (cq rec q B d).bind fun r6=>if(!r6.2)then some (t,(2:Int))else
    (d9 (nJ x.root.Left x.root.Cond) [r5.1,r6.1]).bind fun r2=>if(!r2.2)then some (t,(2:Int))else
     (cq rec r2.1 C false).bind fun r3=>(ip r3.1 r3.2).bind fun r4=>some (r4.1,r4.2):=by
 unfold fW
 rw [show cU [A,B,C] ((0:Nat):Int)=some A from rfl,bo]
 refine congrArg _ (funext fun r5=>?_)
 by_cases h5:(!r5.2)=true
 ·rw [bE h5,bE h5]
 ·rw [bn h5,bn h5,show jT ([]:List am) [r5.1]=some [r5.1]from rfl,bo]
  unfold fW
  rw [show cU [A,B,C] ((0+1:Nat):Int)=some B from rfl,bo]
  refine congrArg _ (funext fun r6=>?_)
  by_cases h6:(!r6.2)=true
  ·rw [bE h6,bE h6]
  ·rw [bn h6,bn h6,show jT [r5.1] [r6.1]=some [r5.1,r6.1]from rfl,bo]
   unfold fW
   refine congrArg _ (funext fun r2=>?_)
   by_cases J:(!r2.2)=true
   ·rw [bE J,bE J]
   ·rw [bn J,bn J,show cU [A,B,C] (2:Int)=some C from rfl,bo]
def FZ(rec:BG){n m:aa}{p q:am}(hp:nh p)(d:Bool)(A B C:List ai)(hA:A.length<=2000)(hB:B.length<=2000)(hsd:mS n.Cond ((KF p).length:Int) m.Left=some [A,B,C]):
  fG rec (aS n (cr m p q)) d=if A=[]/\B=[]then some (aS n (cr m p q),0)else fW rec (aS n (cr m p q)) d (cr m p q) [A,B,C] [p,q] 0 [] zT:=by
 unfold fG
 rw [show cU (aS n (cr m p q)).parts (0:Int)=some (cr m p q)from rfl,bo,
  show cU (cr m p q).parts (0:Int)=some p from rfl,bo,K8 hp,bo]
 rw [show(aS n (cr m p q)).root.Cond=n.Cond from rfl,show(cr m p q).root.Left=m.Left from rfl,hsd,bo,
  show cU [A,B,C] (0:Int)=some A from rfl,bo,show cU [A,B,C] (1:Int)=some B from rfl,bo,bH (by omega) (by omega)]
 by_cases h:A=[]/\B=[]
 ·rw [bE h,bE (by rw [h.1,h.2];rfl)]
 ·rw [bn h,bn (by
   intro k
   have k:=eq_of_beq k
   exact h ⟨List.length_eq_zero_iff.1 (by omega),List.length_eq_zero_iff.1 (by omega)⟩)]
  rfl
def Jw{c:Tr}(hw:c.wf)(hs:c.size<=1000)(left:Nat)(hl:left<=16)(outer:Bool):mS (cV c) (left:Int) outer=some [(sA (left:Int) (eJ c)).map cV,(sB (left:Int) outer (eJ c)).map cV,(sC (left:Int) outer (eJ c)).map cV]:=by
 have hP:=td hw hs
 have hz:=Cl c
 unfold mS
 rw [Di _ (by rw [mF];omega),show iN (cV c).Nodes=some c from ny hw hs,bo]
 have:=DX (left:Int) (by omega) outer (eJ c) [] [] [] (fun u hu=>⟨(hP.wf u hu).1,(hP.wf u hu).2.1⟩) (by simp;omega)
 simpa using this
def uX(rec:BG){n m:aa}{p q:am}{c:Tr}(hp:nh p)(hw:c.wf)(hs:c.size<=1000)(hc:n.Cond=cV c)(d:Bool):
  fG rec (aS n (cr m p q)) d=if(sA ((KF p).length:Int) (eJ c))=[]/\(sB ((KF p).length:Int) m.Left (eJ c))=[]then some (aS n (cr m p q),0)else
   (cq rec p ((sA ((KF p).length:Int) (eJ c)).map cV) d).bind fun r5=>if(!r5.2)then some (aS n (cr m p q),(2:Int))else
    (cq rec q ((sB ((KF p).length:Int) m.Left (eJ c)).map cV) d).bind fun r6=>if(!r6.2)then some (aS n (cr m p q),(2:Int))else
     (d9 (nJ m.Left m.Cond) [r5.1,r6.1]).bind fun r2=>if(!r2.2)then some (aS n (cr m p q),(2:Int))else
      (cq rec r2.1 ((sC ((KF p).length:Int) m.Left (eJ c)).map cV) false).bind fun r3=>(ip r3.1 r3.2).bind fun r4=>some (r4.1,r4.2):=by
 have hkl:=A8 hp
 have hP:=td hw hs
 have lA:=(hP.a ((KF p).length:Int)).sum
 have lB:=(hP.b (left:=((KF p).length:Int)) (by omega) m.Left).sum
 rw [FZ rec hp d _ _ _ (by rw [zp];omega) (by rw [zp];omega) (hc▸Jw hw hs _ hkl m.Left),FY]
 generalize sA ((KF p).length:Int) (eJ c)=A
 generalize sB ((KF p).length:Int) m.Left (eJ c)=B
 by_cases h:A=[]/\B=[]
 ·rw [bE h,bE (by rw [h.1,h.2];exact⟨rfl,rfl⟩)]
 ·rw [bn h,bn (by rw [List.map_eq_nil_iff,List.map_eq_nil_iff];exact h)]
  rfl
end Go.Proofs.YtbmmihfagmchaaaGreat

