/- de of this claim: FB. -/
import Derived.Test.YtigldkegamffhaaGreatDoorBfT
import Derived.Test.YtigldkegamffhaaGreatDoorBfP10
import Derived.Test.YtigldkegamffhaaGreatDoorBfV4
set_option linter.all false
namespace Go.Proofs.YtigldkegamffhaaGreatDoor
open Go

def pl:Rp (ae ⊕ eX):=LZ aR av rfl (fun h=>by cases h)
def wX(a b c:Option Nat×Nat)(s:ae):eX:=cA s (Y a.1 a.2 s.Items.length) (Y b.1 b.2 s.Joins.length) (Y c.1 c.2 s.Group.length)
abbrev G3(a b c:Option Nat×Nat)(s:ae):List OE:=[dv cv 59 a.1 a.2 s.Items,dv cz 57 b.1 b.2 s.Joins,dv cK 62 c.1 c.2 s.Group]
def yj(ix i n:Nat)(S:List ae)(ms:List (ae ⊕ eX))(X:List OE):Prop:=
 ms.length=S.length/\S.length=n/\(∀j e,j≠ix\/i<=j->S[j]? =some e->ms[j]? =some (.inl e))/\(i<=ix->X=[])/\(ix<i-> ∃a b c s,S[ix]? =some s/\X=G3 a b c s/\ms[ix]? =some (.inr (wX a b c s)))
def PO(ix:Nat)(r:List ae):yj ix 0 r.length r (r.map .inl) []:=
 ⟨Cb ..,rfl,fun j e _ h=>by rw [Dz,h];rfl,fun _=>rfl,fun h=>by omega⟩
def yj.at{ix i n:Nat}{S:List ae}{ms:List (ae ⊕ eX)}{X:List OE}(h:yj ix i n S ms X){e:ae}(k:ep S (i:Int)=some e):ep ms (i:Int)=some (.inl e):=by
 rw [fE]at k ⊢
 exact h.2.2.1 i e (.inr (gu _)) k
def yj.none{ix i n:Nat}{S:List ae}{ms:List (ae ⊕ eX)}{X:List OE}(h:yj ix i n S ms X)(k:i=ix):X=[]:=h.2.2.2.1 (by omega)
def yj.ne{ix i n:Nat}{S T:List ae}{ms:List (ae ⊕ eX)}{X:List OE}(h:yj ix i n S ms X){s:ae}(hs:S.set (i:Int).toNat s=T)(k: ¬i=ix):yj ix (i+1) n T (ms.set (i:Int).toNat (.inl s)) X:=by
 subst hs
 obtain⟨A,V,h3,h4,h5⟩:=h
 simp only [wy]
 refine⟨by simp [A],by simp [V],fun j e hj he=>?_,fun hi=>h4 (by omega),fun hi=>?_⟩
 ·by_cases hji:j=i
  ·subst hji
   by_cases hl:j<S.length
   ·rw [Ls hl]at he
    rw [Ls (by omega)];cases he;rfl
   ·rw [Ip (by rw [vW];omega)]at he;cases he
  ·rw [PW (by omega)]at he ⊢
   exact h3 j e (by omega) he
 ·obtain⟨a,b,c,s',g1,g2,g3⟩:=h5 (by omega)
  exact⟨a,b,c,s',by rw [PW (by omega)];exact g1,g2,by rw [PW (by omega)];exact g3⟩
def yj.eq{ix i n:Nat}{S T:List ae}{ms:List (ae ⊕ eX)}{X:List OE}(h:yj ix i n S ms X){s:ae}{e0:ae}(he:ep S (i:Int)=some e0){a b c:Option Nat×Nat}(hs:S.set (i:Int).toNat s=T)(k:i=ix):yj ix (i+1) n T (ms.set (i:Int).toNat (.inr (wX a b c s))) (G3 a b c s):=by
 subst hs
 subst k
 obtain⟨A,V,h3,h4,h5⟩:=h
 rw [fE]at he
 have hlt:=(o5.1 he).1
 simp only [wy]
 refine⟨by simp [A],by simp [V],fun j e hj he=>?_,fun hi=>by omega,fun hi=>⟨a,b,c,s,?_,rfl,?_⟩⟩
 ·rw [PW (by omega)]at he ⊢
  exact h3 j e (by omega) he
 ·rw [Ls hlt]
 ·rw [Ls (by omega)]
def yj.fin{ix i:Nat}{r S:List ae}{ms:List (ae ⊕ eX)}{X:List OE}(h:yj ix i r.length S ms X)(D:r.drop i=[]):yj ix S.length S.length S ms X:=by
 obtain⟨A,V,h3,h4,h5⟩:=h
 have hl:=Gc.1 D
 refine⟨A,rfl,fun j e hj he=>h3 j e (hj.elim .inl fun k=>?_) he,fun hi=>h4 ?_,fun hi=>h5 (by omega)⟩
 ·rw [Ip (by omega)]at he;cases he
 ·by_cases k:i<=ix
  ·exact k
  ·obtain⟨a,b,c,s,g1,_⟩:=h5 (by omega)
   have:=(o5.1 g1).1
   omega
abbrev aad(ix:Nat)(R:be):Type:={x:OI×List (ae ⊕ eX)×List OE//yj ix R.Selects.length R.Selects.length R.Selects x.2.1 x.2.2}
abbrev aci(R:be):Type:=OI×{os:List eX//os.length=R.Selects.length}
def Wd{S:SH}{x:ae ⊕ eX}{cs:List Value}(h:pl.rc S cs x): ∃y,av.rc S cs y:=by
 cases x with
 |inr y=>exact⟨y,h⟩
 |inl s=>
  obtain⟨a0,b0,e0,h0,a1,b1,e1,A,a2,b2,e2,⟨ad2,c2,i2,_⟩,a3,b3,e3,h3,a4,b4,e4,⟨ad4,c4,i4,_⟩,a5,b5,e5,h5,a6,b6,e6,h6,ad7,c7,i7,_⟩:=(show aR.rc S cs s from h)
  refine⟨⟨s.Distinct,s.Star,.slice ad2 s.Items.length c2,s.From,.slice ad4 s.Joins.length c4,s.Where,s.Having,.slice ad7 s.Group.length c7⟩,a0,b0,e0,h0,a1,b1,e1,A,a2,b2,e2,⟨i2,rfl⟩,a3,b3,e3,h3,a4,b4,e4,⟨i4,rfl⟩,a5,b5,e5,h5,a6,b6,e6,h6,⟨i7,rfl⟩⟩

set_option maxRecDepth 100000 in
def abc(ix:Nat)(q:be){R:be}(h:oL q=some R):eJ aY 6 [K bk q] [] (fun i:aad ix R=>K cH (dd R (Y (i.1.1.h 0).1 (i.1.1.h 0).2 R.Selects.length))) (fun i:aad ix R=>dv pl 53 (i.1.1.h 0).1 (i.1.1.h 0).2 i.1.2.1::i.1.2.2):=by
 refine eJ.of Tryz.func6 rfl rfl rfl fun w0 S0=>?_;refine aE ?_;refine aO ?_;refine Dp (M rfl) rfl (fun b=>?_);refine ba (r:=bk) (x:=(⟨[],[],(0:Int)⟩:be)) qo (fun _=>wb _) rfl (fun b1=>?_);refine bu ?_;refine aC ?_;refine aE ?_
 obtain⟨r,q_r,h⟩:=bs h
 obtain⟨r1,q_r1,h⟩:=bs h
 refine fY 7 [tc (Z (al b 0)),tc (K (fJ aR) q.Selects),([2],fun s=>Z (Y ((s.getD 0 oA).h 0).1 ((s.getD 0 oA).h 0).2 r.length)),tc (Z (al b 1)),tc (K (fJ jG) q.Keys),tc (K (fJ jG) r1),tc (Z (al b 0))] [false,false,true,false,false,false,false] [fun _=>[bx bk 28 b1 (⟨[],[],(0:Int)⟩:be),bx bk 28 b q],fun sg=>[dv aR 53 ((sg 2).h 0).1 ((sg 2).h 0).2 r,bx bk 28 b1 (⟨[],[],(0:Int)⟩:be),bx bk 28 b q]] rfl mixed rfl rfl rfl rfl rfl
  ⟨⟨[⟨1,fun _=>Z (al b 0),none⟩],_,0,0,rfl,⟨(fun _=>rfl),trivial⟩,rfl,rfl,rfl,rfl,rfl,fun _ sg _ _=>aK rfl (dc (n:=0) qK rfl (M rfl) rfl)⟩,
  ⟨⟨[⟨9,fun _=>Z (al b 0),some 0⟩],_,0,0,rfl,⟨(fun _=>rfl),trivial⟩,rfl,rfl,rfl,rfl,rfl,dX (fun sg=>aK rfl (bn Bh rfl rfl pQ (.tail _ (.head _)) (M rfl)))⟩,
  ⟨⟨[⟨10,fun _=>K (fJ aR) q.Selects,some 1⟩],_,rfl,⟨(fun _=>rfl),trivial⟩,rfl,rfl,rfl,fun sg=>bL rfl (p8 (xs:=[.tmp 10,.const (.int .i64 (4))]) (ts:=[K (fJ aR) q.Selects,K (rI .i64) (4:Int)]) abO (Rj _ _ q_r) ⟨(M rfl),hI,trivial⟩)⟩,
  ⟨⟨[⟨1,fun _=>Z (al b 0),none⟩],_,0,1,rfl,⟨(fun _=>rfl),trivial⟩,rfl,rfl,rfl,rfl,rfl,fun _ sg _ _=>aK rfl (dc (n:=1) zf rfl (M rfl) rfl)⟩,
  ⟨⟨[⟨12,fun _=>Z (al b 1),some 3⟩],_,0,1,rfl,⟨(fun _=>rfl),trivial⟩,rfl,rfl,rfl,rfl,rfl,rq (fun sg=>aK rfl (bn Iu rfl rfl pP (.tail _ (.head _)) (M rfl))) (dX (fun sg=>aK rfl (bn Iu rfl rfl pP (.tail _ (.tail _ (.head _))) (M rfl))))⟩,
  ⟨⟨[⟨13,fun _=>K (fJ jG) q.Keys,some 4⟩],_,1,1,rfl,⟨(fun _=>rfl),trivial⟩,rfl,rfl,rfl,rfl,rfl,fun _ sg _ _=>aK rfl (bH abL (Vk _ _ q_r1) ⟨(M rfl),hI,trivial⟩)⟩,
  ⟨⟨[⟨1,fun _=>Z (al b 0),none⟩],_,1,1,rfl,⟨(fun _=>rfl),trivial⟩,rfl,rfl,rfl,rfl,rfl,fun _ sg _ _=>aK rfl (dc (n:=0) qK rfl (M rfl) rfl)⟩,
  trivial⟩⟩⟩⟩⟩⟩⟩ (fun sg=>?_)
 refine(show RG _ _ _ _ [dv aR 53 ((sg 2).h 0).1 ((sg 2).h 0).2 r,bx bk 28 b1 (⟨[],[],(0:Int)⟩:be),bx bk 28 b q] _ from ?_);refine gw ?_;refine fv Bh rfl (uw q _) rfl (M rfl) (Nz (M rfl)) ?_;refine fL (dc (n:=1) zf rfl (M rfl) rfl) rfl ?_;refine jJ Iu rfl Cz rfl (M rfl) (M rfl) ?_;refine bu ?_;refine aC ?_;refine aE ?_;refine aE ?_;refine aO ?_;refine fL (dc (n:=0) qK rfl (M rfl) rfl) rfl ?_;refine fL (fg Bh oO (.head _) rfl (M rfl)) rfl ?_;refine fL (fa u0 (.tail _ (.head _)) (M rfl)) rfl ?_;refine fL (bG hI) rfl ?_;refine bu ?_;refine aC ?_;refine am ?_;refine fQ (.tail _ (.head _)) (fun hN=>?_);refine cc ?_;refine gx ?_;refine gx ?_;refine jt ?_;refine jt ?_;refine VR (q:=pl) (f:=Sum.inl) rfl (fun _ _ _ k=>k) ?_;refine jt ?_;refine jt ?_;refine aP (sL (tV:=fun ls i q1 ms X=>(r.drop i=ls)/\iE ls i q1=some R/\yj ix i r.length q1.Selects ms X) (Of:=fun _ i q1 ms X=>(bx bk 28 b1 (⟨[],[],(0:Int)⟩:be)::bx cH 28 b (dd q1 (Y ((sg 2).h 0).1 ((sg 2).h 0).2 q1.Selects.length))::dv pl 53 ((sg 2).h 0).1 ((sg 2).h 0).2 ms::X)) (Gf:=fun _ i q1 ms X=>[(1,Z (al b 0)),(2,Z (al b1 0)),(18,Z (Y ((sg 2).h 0).1 ((sg 2).h 0).2 r.length)),(19,K (rI .i64) (r.length:Int)),(20,K (rI .i64) (i:Int))]) (fun i q1 ms X h=>?_) (fun e tl ih i q1 ms X h=>?_) r 0 ({({q with Keys:=r1}:be)with Selects:=r}:be) (r.map .inl) [] ⟨rfl,h,PO ix r⟩) ⟨rfl,rfl,rfl,rfl,rfl,trivial⟩
 ·obtain⟨D,h,hm⟩:=h
  refine d7 ?_;refine aE ?_;refine aO ?_;refine fL (jh (M rfl) (M rfl)) rfl ?_;refine bu ?_;refine aC ?_;refine aE ?_;refine lb (M rfl) (Da D) ?_;refine gH ?_;refine aH (aH (dA ?_));refine aC ?_;refine aE ?_;refine aO ?_;refine fL (bn (r:=cH) (q:=cH) (get:=fun x=>x) (x:=dd q1 (Y ((sg 2).h 0).1 ((sg 2).h 0).2 q1.Selects.length)) qo rfl rfl cg (.tail _ (.head _)) (M rfl)) rfl ?_;refine fv (r' :=cH) (x' :=dd q1 (Y ((sg 2).h 0).1 ((sg 2).h 0).2 q1.Selects.length)) qo rfl (fB rfl) rfl (M rfl) (M rfl) ?_;refine bu ?_;refine aC ?_;refine zE ?_;refine dV 2 rfl ?_;refine aZ ?_;cases so h;exact Ny rfl qo rfl rfl rfl (⟨(oiL [((sg 2).h 0)],ms,X),hm.fin D⟩:aad ix R) rfl rfl
 ·obtain⟨D,h,hm⟩:=h
  refine d7 ?_;refine aE ?_;refine aO ?_;refine fL (jh (M rfl) (M rfl)) rfl ?_;refine bu ?_;refine aC ?_;refine aE ?_;refine la (M rfl) (zm D) ?_;refine ck ?_;refine aC ?_;refine aE ?_;refine am ?_;refine aE ?_;refine aO ?_;refine fL (bG (M rfl)) rfl ?_
  obtain⟨e1,q_e1,h⟩:=bs h
  refine fL (iw u0 oF (.tail _ (.tail _ (.head _))) (M rfl) (M rfl) (hm.at q_e1) (nl D)) rfl ?_
  obtain⟨e2,q_e2,h⟩:=bs h
  refine fL (Sq (r:=pl) (q:=aR) (i:=(i:Int)) (foff:=0) oF rfl rfl (UV _ _) (.tail _ (.tail _ (.head _))) (hm.at q_e2) (M rfl)) rfl ?_;refine cM false cv 59 ?_;refine cM false cz 57 ?_;refine cM false cK 62 ?_;refine ba (r:=av) (x:=cA (⟨false,false,[],(⟨[],[]⟩:ci),[],(⟨[]⟩:bT),(⟨[]⟩:bT),[]⟩:ae) (Y none 0 (([]:List ev).length)) (Y none 0 (([]:List g9).length)) (Y none 0 (([]:List gk).length))) oF xF rfl (fun b2=>?_);refine fL (cR (M rfl)) rfl ?_;refine fv (r' :=aR) (x' :=e2) oF rfl (fB rfl) rfl (M rfl) (M rfl) ?_;refine(show RG _ _ _ _ (bx aR 53 b2 e2::dv cK 62 none 0 ([]:List gk)::dv cz 57 none 0 ([]:List g9)::dv cv 59 none 0 ([]:List ev)::bx bk 28 b1 (⟨[],[],(0:Int)⟩:be)::bx cH 28 b (dd q1 (Y ((sg 2).h 0).1 ((sg 2).h 0).2 q1.Selects.length))::dv pl 53 ((sg 2).h 0).1 ((sg 2).h 0).2 ms::X) _ from ?_);refine cY ?_;refine ny ?_;refine cY ?_;refine ny ?_;refine cY ?_;refine ny ?_;refine bu ?_;refine aC ?_;refine aE ?_
  obtain⟨r2,q_r2,h⟩:=bs h
  obtain⟨r3,q_r3,h⟩:=bs h
  obtain⟨r4,q_r4,h⟩:=bs h
  refine fY 10 [tc (Z (al b2 2)),tc (K (fJ cv) e2.Items),([2],fun s=>Z (Y ((s.getD 0 oA).h 0).1 ((s.getD 0 oA).h 0).2 r2.length)),tc (Z (al b2 5)),tc (K (fJ cz) e2.Joins),([5],fun s=>Z (Y ((s.getD 0 oA).h 0).1 ((s.getD 0 oA).h 0).2 r3.length)),tc (Z (al b2 8)),tc (K (fJ cK) e2.Group),([8],fun s=>Z (Y ((s.getD 0 oA).h 0).1 ((s.getD 0 oA).h 0).2 r4.length)),tc (Z (al b2 2))] [false,false,true,false,false,true,false,false,true,false] [fun _=>(bx aR 53 b2 e2::bx bk 28 b1 (⟨[],[],(0:Int)⟩:be)::bx cH 28 b (dd q1 (Y ((sg 2).h 0).1 ((sg 2).h 0).2 q1.Selects.length))::dv pl 53 ((sg 2).h 0).1 ((sg 2).h 0).2 ms::X),fun sg1=>(dv cv 59 ((sg1 2).h 0).1 ((sg1 2).h 0).2 r2::bx aR 53 b2 e2::bx bk 28 b1 (⟨[],[],(0:Int)⟩:be)::bx cH 28 b (dd q1 (Y ((sg 2).h 0).1 ((sg 2).h 0).2 q1.Selects.length))::dv pl 53 ((sg 2).h 0).1 ((sg 2).h 0).2 ms::X),fun sg1=>(dv cz 57 ((sg1 5).h 0).1 ((sg1 5).h 0).2 r3::dv cv 59 ((sg1 2).h 0).1 ((sg1 2).h 0).2 r2::bx aR 53 b2 e2::bx bk 28 b1 (⟨[],[],(0:Int)⟩:be)::bx cH 28 b (dd q1 (Y ((sg 2).h 0).1 ((sg 2).h 0).2 q1.Selects.length))::dv pl 53 ((sg 2).h 0).1 ((sg 2).h 0).2 ms::X),fun sg1=>(dv cK 62 ((sg1 8).h 0).1 ((sg1 8).h 0).2 r4::dv cz 57 ((sg1 5).h 0).1 ((sg1 5).h 0).2 r3::dv cv 59 ((sg1 2).h 0).1 ((sg1 2).h 0).2 r2::bx aR 53 b2 e2::bx bk 28 b1 (⟨[],[],(0:Int)⟩:be)::bx cH 28 b (dd q1 (Y ((sg 2).h 0).1 ((sg 2).h 0).2 q1.Selects.length))::dv pl 53 ((sg 2).h 0).1 ((sg 2).h 0).2 ms::X)] rfl mixed rfl rfl rfl rfl rfl
   ⟨⟨[⟨4,fun _=>Z (al b2 0),none⟩],_,0,0,rfl,⟨(fun _=>rfl),trivial⟩,rfl,rfl,rfl,rfl,rfl,fun _ sg1 _ _=>aK rfl (dc (n:=2) pb rfl (M rfl) rfl)⟩,
   ⟨⟨[⟨25,fun _=>Z (al b2 2),some 0⟩],_,0,0,rfl,⟨(fun _=>rfl),trivial⟩,rfl,rfl,rfl,rfl,rfl,dX (fun sg1=>aK rfl (bn At rfl rfl mW (.head _) (M rfl)))⟩,
   ⟨⟨[⟨26,fun _=>K (fJ cv) e2.Items,some 1⟩],_,rfl,⟨(fun _=>rfl),trivial⟩,rfl,rfl,rfl,fun sg1=>bL rfl (p8 (xs:=[.tmp 26,.const (.int .i64 (7))]) (ts:=[K (fJ cv) e2.Items,K (rI .i64) (7:Int)]) abJ (Ri _ _ q_r2) ⟨(M rfl),hI,trivial⟩)⟩,
   ⟨⟨[⟨4,fun _=>Z (al b2 0),none⟩],_,0,1,rfl,⟨(fun _=>rfl),trivial⟩,rfl,rfl,rfl,rfl,rfl,fun _ sg1 _ _=>aK rfl (dc (n:=5) pR rfl (M rfl) rfl)⟩,
   ⟨⟨[⟨28,fun _=>Z (al b2 5),some 3⟩],_,0,1,rfl,⟨(fun _=>rfl),trivial⟩,rfl,rfl,rfl,rfl,rfl,rq (fun sg1=>aK rfl (bn yD rfl rfl oj (.head _) (M rfl))) (dX (fun sg1=>aK rfl (bn yD rfl rfl oj (.tail _ (.head _)) (M rfl))))⟩,
   ⟨⟨[⟨29,fun _=>K (fJ cz) e2.Joins,some 4⟩],_,rfl,⟨(fun _=>rfl),trivial⟩,rfl,rfl,rfl,fun sg1=>bL rfl (p8 (xs:=[.tmp 29,.const (.int .i64 (3))]) (ts:=[K (fJ cz) e2.Joins,K (rI .i64) (3:Int)]) abI (Rh _ _ q_r3) ⟨(M rfl),hI,trivial⟩)⟩,
   ⟨⟨[⟨4,fun _=>Z (al b2 0),none⟩],_,0,2,rfl,⟨(fun _=>rfl),trivial⟩,rfl,rfl,rfl,rfl,rfl,fun _ sg1 _ _=>aK rfl (dc (n:=8) vQ rfl (M rfl) rfl)⟩,
   ⟨⟨[⟨31,fun _=>Z (al b2 8),some 6⟩],_,0,2,rfl,⟨(fun _=>rfl),trivial⟩,rfl,rfl,rfl,rfl,rfl,rq (fun sg1=>aK rfl (bn Cq rfl rfl kJ (.head _) (M rfl))) (rq (fun sg1=>aK rfl (bn Cq rfl rfl kJ (.tail _ (.head _)) (M rfl))) (dX (fun sg1=>aK rfl (bn Cq rfl rfl kJ (.tail _ (.tail _ (.head _))) (M rfl)))))⟩,
   ⟨⟨[⟨32,fun _=>K (fJ cK) e2.Group,some 7⟩],_,rfl,⟨(fun _=>rfl),trivial⟩,rfl,rfl,rfl,fun sg1=>bL rfl (p8 (xs:=[.tmp 32,.const (.int .i64 (4))]) (ts:=[K (fJ cK) e2.Group,K (rI .i64) (4:Int)]) abH (Rg _ _ q_r4) ⟨(M rfl),hI,trivial⟩)⟩,
   ⟨⟨[⟨4,fun _=>Z (al b2 0),none⟩],_,1,3,rfl,⟨(fun _=>rfl),trivial⟩,rfl,rfl,rfl,rfl,rfl,fun _ sg1 _ _=>aK rfl (dc (n:=2) pb rfl (M rfl) rfl)⟩,
   trivial⟩⟩⟩⟩⟩⟩⟩⟩⟩⟩ (fun sg1=>?_)
  refine(show RG _ _ _ _ (dv cK 62 ((sg1 8).h 0).1 ((sg1 8).h 0).2 r4::dv cz 57 ((sg1 5).h 0).1 ((sg1 5).h 0).2 r3::dv cv 59 ((sg1 2).h 0).1 ((sg1 2).h 0).2 r2::bx aR 53 b2 e2::bx bk 28 b1 (⟨[],[],(0:Int)⟩:be)::bx cH 28 b (dd q1 (Y ((sg 2).h 0).1 ((sg 2).h 0).2 q1.Selects.length))::dv pl 53 ((sg 2).h 0).1 ((sg 2).h 0).2 ms::X) _ from ?_);refine jq ?_;refine fv At rfl (th e2 _) rfl (M rfl) (Nz (M rfl)) ?_;refine fL (dc (n:=5) pR rfl (M rfl) rfl) rfl ?_;refine fv yD rfl (pW e2 _ _) rfl (M rfl) (Nz (M rfl)) ?_;refine fL (dc (n:=8) vQ rfl (M rfl) rfl) rfl ?_;refine fv Cq rfl (nM e2 _ _ _) rfl (M rfl) (Nz (M rfl)) ?_;refine bu ?_;refine aC ?_;refine aE ?_;refine aE ?_;refine aO ?_;refine fL (dc (n:=2) pb rfl (M rfl) rfl) rfl ?_;refine fL (fg At ka (.head _) rfl (M rfl)) rfl ?_;refine fL (fa sQ (.tail _ (.tail _ (.tail _ (.head _)))) (M rfl)) rfl ?_;refine fL (bG hI) rfl ?_;refine bu ?_;refine aC ?_;refine am ?_;refine fQ (.tail _ (.tail _ (.tail _ (.head _)))) (fun hN1=>?_);refine cc ?_;refine gx ?_;refine jt ?_;refine oY ?_;refine oY ?_;refine uj ?_;refine uj ?_;refine uj ?_;refine aP (gY (tV:=fun ls1 i1 s=>(r2.drop i1=ls1)/\nc (iE tl) i q1 ls1 i1 s=some R) (Of:=fun _ i1 s=>(bx bk 28 b1 (⟨[],[],(0:Int)⟩:be)::bx cH 28 b (dd q1 (Y ((sg 2).h 0).1 ((sg 2).h 0).2 q1.Selects.length))::dv pl 53 ((sg 2).h 0).1 ((sg 2).h 0).2 ms::bx av 53 b2 (cA s (Y ((sg1 2).h 0).1 ((sg1 2).h 0).2 s.Items.length) (Y ((sg1 5).h 0).1 ((sg1 5).h 0).2 s.Joins.length) (Y ((sg1 8).h 0).1 ((sg1 8).h 0).2 s.Group.length))::dv cv 59 ((sg1 2).h 0).1 ((sg1 2).h 0).2 s.Items::dv cz 57 ((sg1 5).h 0).1 ((sg1 5).h 0).2 s.Joins::dv cK 62 ((sg1 8).h 0).1 ((sg1 8).h 0).2 s.Group::X)) (Gf:=fun _ i1 s=>[(1,Z (al b 0)),(2,Z (al b1 0)),(3,K (rI .i64) (i:Int)),(4,Z (al b2 0)),(18,Z (Y ((sg 2).h 0).1 ((sg 2).h 0).2 r.length)),(19,K (rI .i64) (r.length:Int)),(20,K (rI .i64) (i:Int)),(38,Z (Y ((sg1 2).h 0).1 ((sg1 2).h 0).2 r2.length)),(39,K (rI .i64) (r2.length:Int)),(40,K (rI .i64) (i1:Int))]) (fun i1 s h=>?_) (fun e3 tl1 ih1 i1 s h=>?_) r2 0 ({({({e2 with Items:=r2}:ae)with Joins:=r3}:ae)with Group:=r4}:ae) ⟨rfl,h⟩) ⟨rfl,rfl,rfl,rfl,rfl,rfl,rfl,rfl,rfl,rfl,trivial⟩
  ·obtain⟨hx1,h⟩:=h
   refine d7 ?_;refine aE ?_;refine aO ?_;refine fL (jh (M rfl) (M rfl)) rfl ?_;refine bu ?_;refine aC ?_;refine aE ?_;refine lb (M rfl) (Da hx1) ?_;refine gH ?_;refine aH (aH (dA ?_));refine aC ?_;refine aE ?_;refine aE ?_;refine aO ?_;refine fL (dc (n:=5) pR rfl (M rfl) rfl) rfl ?_;refine fL (fg yD im (.tail _ (.tail _ (.tail _ (.head _)))) rfl (M rfl)) rfl ?_;refine fL (fa vH (.tail _ (.tail _ (.tail _ (.tail _ (.tail _ (.head _)))))) (M rfl)) rfl ?_;refine fL (bG hI) rfl ?_;refine bu ?_;refine aC ?_;refine am ?_;refine fQ (.tail _ (.tail _ (.tail _ (.tail _ (.tail _ (.head _)))))) (fun hN2=>?_);refine cc ?_;refine aP (gY (tV:=fun ls2 i2 s1=>(s.Joins.drop i2=ls2)/\nb (iE tl) i q1 ls2 i2 s1=some R) (Of:=fun _ i2 s1=>(bx bk 28 b1 (⟨[],[],(0:Int)⟩:be)::bx cH 28 b (dd q1 (Y ((sg 2).h 0).1 ((sg 2).h 0).2 q1.Selects.length))::dv pl 53 ((sg 2).h 0).1 ((sg 2).h 0).2 ms::bx av 53 b2 (cA s1 (Y ((sg1 2).h 0).1 ((sg1 2).h 0).2 s1.Items.length) (Y ((sg1 5).h 0).1 ((sg1 5).h 0).2 s1.Joins.length) (Y ((sg1 8).h 0).1 ((sg1 8).h 0).2 s1.Group.length))::dv cv 59 ((sg1 2).h 0).1 ((sg1 2).h 0).2 s1.Items::dv cz 57 ((sg1 5).h 0).1 ((sg1 5).h 0).2 s1.Joins::dv cK 62 ((sg1 8).h 0).1 ((sg1 8).h 0).2 s1.Group::X)) (Gf:=fun _ i2 s1=>[(1,Z (al b 0)),(2,Z (al b1 0)),(3,K (rI .i64) (i:Int)),(4,Z (al b2 0)),(18,Z (Y ((sg 2).h 0).1 ((sg 2).h 0).2 r.length)),(19,K (rI .i64) (r.length:Int)),(20,K (rI .i64) (i:Int)),(55,Z (Y ((sg1 5).h 0).1 ((sg1 5).h 0).2 s.Joins.length)),(56,K (rI .i64) (s.Joins.length:Int)),(57,K (rI .i64) (i2:Int))]) (fun i2 s1 h=>?_) (fun e4 tl2 ih2 i2 s1 h=>?_) s.Joins 0 s ⟨rfl,h⟩) ⟨rfl,rfl,rfl,rfl,rfl,rfl,rfl,rfl,rfl,rfl,trivial⟩
   ·obtain⟨hx2,h⟩:=h
    refine d7 ?_;refine aE ?_;refine aO ?_;refine fL (jh (M rfl) (M rfl)) rfl ?_;refine bu ?_;refine aC ?_;refine aE ?_;refine lb (M rfl) (Da hx2) ?_;refine gH ?_;refine aH (aH (dA ?_));refine aC ?_;refine aE ?_
    obtain⟨r5,q_r5,h⟩:=bs h
    obtain⟨r6,q_r6,h⟩:=bs h
    refine oz 7 (ts:=[Z (al b2 6),K aX s1.Where,K aX r5,Z (al b2 7),K aX s1.Having,K aX r6,Z (al b2 6)]) mixed rfl rfl rfl
     ⟨⟨[⟨4,_,none⟩],_,rfl,⟨rfl,trivial⟩,rfl,rfl,aK rfl (dc (n:=6) xj rfl (M rfl) rfl)⟩,
     ⟨⟨[⟨71,_,some 0⟩],_,rfl,⟨rfl,trivial⟩,rfl,rfl,aK rfl (bn (r:=av) (x:=cA s1 (Y ((sg1 2).h 0).1 ((sg1 2).h 0).2 s1.Items.length) (Y ((sg1 5).h 0).1 ((sg1 5).h 0).2 s1.Joins.length) (Y ((sg1 8).h 0).1 ((sg1 8).h 0).2 s1.Group.length)) ic rfl rfl qI (.tail _ (.tail _ (.tail _ (.head _)))) (M rfl))⟩,
     ⟨⟨[⟨72,_,some 1⟩],_,rfl,⟨rfl,trivial⟩,rfl,rfl,aK rfl (bH Ld (zh _ q_r5) ⟨(M rfl),trivial⟩)⟩,
     ⟨⟨[⟨4,_,none⟩],_,rfl,⟨rfl,trivial⟩,rfl,rfl,aK rfl (dc (n:=7) vR rfl (M rfl) rfl)⟩,
     ⟨⟨[⟨74,_,some 3⟩],_,rfl,⟨rfl,trivial⟩,rfl,rfl,aK rfl (bn (r:=av) (x:=cA s1 (Y ((sg1 2).h 0).1 ((sg1 2).h 0).2 s1.Items.length) (Y ((sg1 5).h 0).1 ((sg1 5).h 0).2 s1.Joins.length) (Y ((sg1 8).h 0).1 ((sg1 8).h 0).2 s1.Group.length)) ic rfl rfl qH (.tail _ (.tail _ (.tail _ (.head _)))) (M rfl))⟩,
     ⟨⟨[⟨75,_,some 4⟩],_,rfl,⟨rfl,trivial⟩,rfl,rfl,aK rfl (bH Ld (zh _ q_r6) ⟨(M rfl),trivial⟩)⟩,
     ⟨⟨[⟨4,_,none⟩],_,rfl,⟨rfl,trivial⟩,rfl,rfl,aK rfl (dc (n:=6) xj rfl (M rfl) rfl)⟩,
     trivial⟩⟩⟩⟩⟩⟩⟩ ?_
    refine jq ?_;refine jJ ic rfl qr rfl (M rfl) (M rfl) ?_;refine fL (dc (n:=7) vR rfl (M rfl) rfl) rfl ?_;refine jJ ic rfl qq rfl (M rfl) (M rfl) ?_;refine bu ?_;refine aC ?_;refine aO ?_;refine fL (dc (n:=0) qK rfl (M rfl) rfl) rfl ?_;refine fL (fg Bh oO (.tail _ (.tail _ (.head _))) rfl (M rfl)) rfl ?_;refine fL (bG (M rfl)) rfl ?_
    by_cases hii:i=ix
    ·cases hm.none hii
     refine fL (bn (r:=av) (q:=av) (get:=fun x=>x) (x:=wX ((sg1 2).h 0) ((sg1 5).h 0) ((sg1 8).h 0) ({({({({({s1 with Where:=r5}:ae)with Having:=r6}:ae)with Items:=s1.Items}:ae)with Joins:=s1.Joins}:ae)with Group:=s1.Group}:ae)) oF rfl rfl cg (.head _) (M rfl)) rfl ?_;refine fL (bo u0 oF (.tail _ (.tail _ (.tail _ (.head _)))) (M rfl) (M rfl) (hm.at q_e2) hm.1.symm) rfl ?_;refine jq ?_
     obtain⟨st,q_st,h⟩:=bs h
     refine Ib oF rfl (Wr (x:=wX ((sg1 2).h 0) ((sg1 5).h 0) ((sg1 8).h 0) ({({({({({s1 with Where:=r5}:ae)with Having:=r6}:ae)with Items:=s1.Items}:ae)with Joins:=s1.Joins}:ae)with Group:=s1.Group}:ae)) _ _) rfl (hm.at q_e2) rfl (M rfl) (M rfl) ?_;refine jm (O' :=(dv pl 53 ((sg 2).h 0).1 ((sg 2).h 0).2 (ms.set (i:Int).toNat (.inr (wX ((sg1 2).h 0) ((sg1 5).h 0) ((sg1 8).h 0) ({({({({({s1 with Where:=r5}:ae)with Having:=r6}:ae)with Items:=s1.Items}:ae)with Joins:=s1.Joins}:ae)with Group:=s1.Group}:ae))))::bx av 53 b2 (wX ((sg1 2).h 0) ((sg1 5).h 0) ((sg1 8).h 0) ({({({({({s1 with Where:=r5}:ae)with Having:=r6}:ae)with Items:=s1.Items}:ae)with Joins:=s1.Joins}:ae)with Group:=s1.Group}:ae))::bx bk 28 b1 (⟨[],[],(0:Int)⟩:be)::bx cH 28 b (dd q1 (Y ((sg 2).h 0).1 ((sg 2).h 0).2 st.length))::G3 ((sg1 2).h 0) ((sg1 5).h 0) ((sg1 8).h 0) ({({({({({s1 with Where:=r5}:ae)with Having:=r6}:ae)with Items:=s1.Items}:ae)with Joins:=s1.Joins}:ae)with Group:=s1.Group}:ae))) (by first|(rw [dS (so q_st)];done)|(rw [dS (so q_st)];exact rfl)|exact rfl) ?_;refine bu ?_;refine bW ?_;refine aC ?_;refine aO ?_;refine fL (mh (A1 D hN) (M rfl) hI) rfl ?_;refine fL (bG (M rfl)) rfl ?_;refine bu ?_;refine dW ?_;refine aZ ?_;refine fF ?_;refine fF ?_;exact bl (aP (ih (i+1) ({q1 with Selects:=st}:be) (ms.set (i:Int).toNat (.inr (wX ((sg1 2).h 0) ((sg1 5).h 0) ((sg1 8).h 0) ({({({({({s1 with Where:=r5}:ae)with Having:=r6}:ae)with Items:=s1.Items}:ae)with Joins:=s1.Joins}:ae)with Group:=s1.Group}:ae)))) (G3 ((sg1 2).h 0) ((sg1 5).h 0) ((sg1 8).h 0) ({({({({({s1 with Where:=r5}:ae)with Having:=r6}:ae)with Items:=s1.Items}:ae)with Joins:=s1.Joins}:ae)with Group:=s1.Group}:ae)) ⟨eg D,h,hm.eq q_e2 (so q_st) hii⟩) ⟨rfl,rfl,rfl,rfl,rfl,trivial⟩)
    ·refine ui ?_;refine jr ?_;refine Ai ?_;refine jr ?_;refine uh ?_;refine jr ?_;refine fL (oa (q:=aR) (y:=({({({({({s1 with Where:=r5}:ae)with Having:=r6}:ae)with Items:=s1.Items}:ae)with Joins:=s1.Joins}:ae)with Group:=s1.Group}:ae)) oF rfl rfl rfl rfl (.tail _ (.tail _ (.tail _ (.head _)))) (fun _ _ _ ho h=>om (ly ho (.tail _ (.tail _ (.head _)))) (ly ho (.tail _ (.head _))) (ly ho (.head _)) h) (M rfl)) rfl ?_;refine fL (bo u0 oF (.tail _ (.tail _ (.tail _ (.tail _ (.tail _ (.tail _ (.head _))))))) (M rfl) (M rfl) (hm.at q_e2) hm.1.symm) rfl ?_;refine uh ?_
     obtain⟨st,q_st,h⟩:=bs h
     refine Ib oF rfl (Ws _ _) rfl (hm.at q_e2) rfl (M rfl) (M rfl) ?_;refine jm (O' :=(dv pl 53 ((sg 2).h 0).1 ((sg 2).h 0).2 (ms.set (i:Int).toNat (.inl ({({({({({s1 with Where:=r5}:ae)with Having:=r6}:ae)with Items:=s1.Items}:ae)with Joins:=s1.Joins}:ae)with Group:=s1.Group}:ae)))::d cK 62 ((sg1 8).h 0).1 ((sg1 8).h 0).2 s1.Group::d cz 57 ((sg1 5).h 0).1 ((sg1 5).h 0).2 s1.Joins::d cv 59 ((sg1 2).h 0).1 ((sg1 2).h 0).2 s1.Items::bx av 53 b2 (cA ({({s1 with Where:=r5}:ae)with Having:=r6}:ae) (Y ((sg1 2).h 0).1 ((sg1 2).h 0).2 s1.Items.length) (Y ((sg1 5).h 0).1 ((sg1 5).h 0).2 s1.Joins.length) (Y ((sg1 8).h 0).1 ((sg1 8).h 0).2 s1.Group.length))::bx bk 28 b1 (⟨[],[],(0:Int)⟩:be)::bx cH 28 b (dd q1 (Y ((sg 2).h 0).1 ((sg 2).h 0).2 st.length))::X)) (by first|(rw [dS (so q_st)];done)|(rw [dS (so q_st)];exact rfl)|exact rfl) ?_;refine bu ?_;refine bW ?_;refine aC ?_;refine aO ?_;refine fL (mh (A1 D hN) (M rfl) hI) rfl ?_;refine fL (bG (M rfl)) rfl ?_;refine bu ?_;refine dW ?_;refine aZ ?_;refine dW ?_;refine aZ ?_;refine dW ?_;refine aZ ?_;refine dW ?_;refine aZ ?_;refine fF ?_;refine fF ?_;exact bl (aP (ih (i+1) ({q1 with Selects:=st}:be) (ms.set (i:Int).toNat (.inl ({({({({({s1 with Where:=r5}:ae)with Having:=r6}:ae)with Items:=s1.Items}:ae)with Joins:=s1.Joins}:ae)with Group:=s1.Group}:ae))) X ⟨eg D,h,hm.ne (so q_st) hii⟩) ⟨rfl,rfl,rfl,rfl,rfl,trivial⟩)
   ·obtain⟨hx2,h⟩:=h
    refine d7 ?_;refine aE ?_;refine aO ?_;refine fL (jh (M rfl) (M rfl)) rfl ?_;refine bu ?_;refine aC ?_;refine aE ?_;refine la (M rfl) (zm hx2) ?_;refine ck ?_;refine aC ?_;refine aE ?_;refine am ?_;refine aE ?_;refine aO ?_;refine fL (bG (M rfl)) rfl ?_
    obtain⟨e5,q_e5,h⟩:=bs h
    refine fL (iw vH sU (.tail _ (.tail _ (.tail _ (.tail _ (.tail _ (.head _)))))) (M rfl) (M rfl) q_e5 (nl hx2)) rfl ?_
    obtain⟨e6,q_e6,h⟩:=bs h
    refine fL (cb (r:=cz) (i:=(i2:Int)) (foff:=0) sU rfl rfl cg rfl (.tail _ (.tail _ (.tail _ (.tail _ (.tail _ (.head _)))))) q_e6 (M rfl)) rfl ?_;refine ba (r:=cz) (x:=(⟨false,(⟨[],[]⟩:ci),(⟨[]⟩:bT)⟩:g9)) sU (fun _=>Cn _) rfl (fun b3=>?_);refine fL (cR (M rfl)) rfl ?_;refine jJ sU rfl ak rfl (M rfl) (M rfl) ?_;refine a8 8 rfl ?_;refine bu ?_;refine aC ?_
    obtain⟨r7,q_r7,h⟩:=bs h
    refine oz 8 (ts:=[Z (al b2 5),Z (Y ((sg1 5).h 0).1 ((sg1 5).h 0).2 s1.Joins.length),K (rI .i64) (i2:Int),bt aX e6.On,K aX e6.On,K aX r7,Z (bh ((sg1 5).h 0).1 ((i2:Int).toNat*4+0)),Z (bh ((sg1 5).h 0).1 ((i2:Int).toNat*4+3))]) mixed rfl rfl rfl
     ⟨⟨[⟨4,_,none⟩],_,rfl,⟨rfl,trivial⟩,rfl,rfl,aK rfl (dc (n:=5) pR rfl (M rfl) rfl)⟩,
     ⟨⟨[⟨62,_,some 0⟩],_,rfl,⟨rfl,trivial⟩,rfl,rfl,aK rfl (fg yD im (.tail _ (.tail _ (.tail _ (.head _)))) rfl (M rfl))⟩,
     ⟨⟨[⟨7,_,none⟩],_,rfl,⟨rfl,trivial⟩,rfl,rfl,aK rfl (bG (M rfl))⟩,
     ⟨⟨[⟨8,_,none⟩],_,rfl,⟨rfl,trivial⟩,rfl,rfl,aK rfl (kD ze rfl wq rfl (M rfl))⟩,
     ⟨⟨[⟨65,_,some 3⟩],_,rfl,⟨rfl,trivial⟩,rfl,rfl,aK rfl (nO ic rfl rfl (M rfl))⟩,
     ⟨⟨[⟨66,_,some 4⟩],_,rfl,⟨rfl,trivial⟩,rfl,rfl,aK rfl (bH Ld (zh _ q_r7) ⟨(M rfl),trivial⟩)⟩,
     ⟨⟨[⟨63,_,some 1⟩,⟨64,_,some 2⟩],_,rfl,⟨rfl,rfl,trivial⟩,rfl,rfl,aK rfl (bo vH sU (.tail _ (.tail _ (.tail _ (.tail _ (.tail _ (.head _)))))) (M rfl) (M rfl) q_e6)⟩,
     ⟨⟨[⟨68,_,some 6⟩],_,rfl,⟨rfl,trivial⟩,rfl,rfl,aK rfl (aW (o:=(i2:Int).toNat*4+0) (n:=(i2:Int).toNat*4+3) ze rfl (.tail _ (.tail _ (.tail _ (.tail _ (.tail _ (.head _)))))) q_e6 (M rfl) rfl)⟩,
     trivial⟩⟩⟩⟩⟩⟩⟩⟩ ?_
    refine Ai ?_
    obtain⟨st1,q_st1,h⟩:=bs h
    refine ir ic rfl DX rfl q_e6 (so q_st1) (M rfl) (M rfl) ?_;refine iW (dS (so q_st1)) 63 rfl ?_;refine jm (O' :=(dv cz 57 ((sg1 5).h 0).1 ((sg1 5).h 0).2 st1::bx bk 28 b1 (⟨[],[],(0:Int)⟩:be)::bx cH 28 b (dd q1 (Y ((sg 2).h 0).1 ((sg 2).h 0).2 q1.Selects.length))::dv pl 53 ((sg 2).h 0).1 ((sg 2).h 0).2 ms::bx av 53 b2 (cA s1 (Y ((sg1 2).h 0).1 ((sg1 2).h 0).2 s1.Items.length) (Y ((sg1 5).h 0).1 ((sg1 5).h 0).2 st1.length) (Y ((sg1 8).h 0).1 ((sg1 8).h 0).2 s1.Group.length))::dv cv 59 ((sg1 2).h 0).1 ((sg1 2).h 0).2 s1.Items::dv cK 62 ((sg1 8).h 0).1 ((sg1 8).h 0).2 s1.Group::X)) (by first|(rw [dS (so q_st1)];done)|(rw [dS (so q_st1)];exact rfl)|exact rfl) ?_;refine bu ?_;refine bW ?_;refine aC ?_;refine aO ?_;refine fL (mh (A1 hx2 hN2) (M rfl) hI) rfl ?_;refine fL (bG (M rfl)) rfl ?_;refine bu ?_;refine eG ?_;refine dW ?_;refine eG ?_;refine eG ?_;refine eG ?_;refine eG ?_;refine eG ?_;exact bl (aP (ih2 (i2+1) ({s1 with Joins:=st1}:ae) ⟨eg hx2,h⟩) ⟨rfl,rfl,rfl,rfl,rfl,rfl,rfl,rfl,rfl,rfl,trivial⟩)
  ·obtain⟨hx1,h⟩:=h
   refine d7 ?_;refine aE ?_;refine aO ?_;refine fL (jh (M rfl) (M rfl)) rfl ?_;refine bu ?_;refine aC ?_;refine aE ?_;refine la (M rfl) (zm hx1) ?_;refine ck ?_;refine aC ?_;refine aE ?_;refine am ?_;refine aE ?_;refine aO ?_;refine fL (bG (M rfl)) rfl ?_
   obtain⟨e7,q_e7,h⟩:=bs h
   refine fL (iw sQ oE (.tail _ (.tail _ (.tail _ (.tail _ (.head _))))) (M rfl) (M rfl) q_e7 (nl hx1)) rfl ?_
   obtain⟨e8,q_e8,h⟩:=bs h
   refine fL (cb (r:=cv) (i:=(i1:Int)) (foff:=0) oE rfl rfl cg rfl (.tail _ (.tail _ (.tail _ (.tail _ (.head _))))) q_e8 (M rfl)) rfl ?_;refine ba (r:=cv) (x:=(⟨(⟨[]⟩:bT),[]⟩:ev)) oE (fun _=>u6 _) rfl (fun b4=>?_);refine fL (cR (M rfl)) rfl ?_;refine jJ oE rfl ak rfl (M rfl) (M rfl) ?_;refine a8 6 rfl ?_;refine bu ?_;refine aC ?_
   obtain⟨r8,q_r8,h⟩:=bs h
   refine oz 8 (ts:=[Z (al b2 2),Z (Y ((sg1 2).h 0).1 ((sg1 2).h 0).2 s.Items.length),K (rI .i64) (i1:Int),bt aX e8.Tree,K aX e8.Tree,K aX r8,Z (bh ((sg1 2).h 0).1 ((i1:Int).toNat*2+0)),Z (bh ((sg1 2).h 0).1 ((i1:Int).toNat*2+0))]) mixed rfl rfl rfl
    ⟨⟨[⟨4,_,none⟩],_,rfl,⟨rfl,trivial⟩,rfl,rfl,aK rfl (dc (n:=2) pb rfl (M rfl) rfl)⟩,
    ⟨⟨[⟨45,_,some 0⟩],_,rfl,⟨rfl,trivial⟩,rfl,rfl,aK rfl (fg At ka (.tail _ (.tail _ (.tail _ (.head _)))) rfl (M rfl))⟩,
    ⟨⟨[⟨5,_,none⟩],_,rfl,⟨rfl,trivial⟩,rfl,rfl,aK rfl (bG (M rfl))⟩,
    ⟨⟨[⟨6,_,none⟩],_,rfl,⟨rfl,trivial⟩,rfl,rfl,aK rfl (kD te rfl oP rfl (M rfl))⟩,
    ⟨⟨[⟨48,_,some 3⟩],_,rfl,⟨rfl,trivial⟩,rfl,rfl,aK rfl (nO ic rfl rfl (M rfl))⟩,
    ⟨⟨[⟨49,_,some 4⟩],_,rfl,⟨rfl,trivial⟩,rfl,rfl,aK rfl (bH Ld (zh _ q_r8) ⟨(M rfl),trivial⟩)⟩,
    ⟨⟨[⟨46,_,some 1⟩,⟨47,_,some 2⟩],_,rfl,⟨rfl,rfl,trivial⟩,rfl,rfl,aK rfl (bo sQ oE (.tail _ (.tail _ (.tail _ (.tail _ (.head _))))) (M rfl) (M rfl) q_e8)⟩,
    ⟨⟨[⟨51,_,some 6⟩],_,rfl,⟨rfl,trivial⟩,rfl,rfl,aK rfl (aW (o:=(i1:Int).toNat*2+0) (n:=(i1:Int).toNat*2+0) te rfl (.tail _ (.tail _ (.tail _ (.tail _ (.head _))))) q_e8 (M rfl) rfl)⟩,
    trivial⟩⟩⟩⟩⟩⟩⟩⟩ ?_
   refine ui ?_
   obtain⟨st2,q_st2,h⟩:=bs h
   refine ir ic rfl zM rfl q_e8 (so q_st2) (M rfl) (M rfl) ?_;refine iW (dS (so q_st2)) 46 rfl ?_;refine jm (O' :=(dv cv 59 ((sg1 2).h 0).1 ((sg1 2).h 0).2 st2::bx bk 28 b1 (⟨[],[],(0:Int)⟩:be)::bx cH 28 b (dd q1 (Y ((sg 2).h 0).1 ((sg 2).h 0).2 q1.Selects.length))::dv pl 53 ((sg 2).h 0).1 ((sg 2).h 0).2 ms::bx av 53 b2 (cA s (Y ((sg1 2).h 0).1 ((sg1 2).h 0).2 st2.length) (Y ((sg1 5).h 0).1 ((sg1 5).h 0).2 s.Joins.length) (Y ((sg1 8).h 0).1 ((sg1 8).h 0).2 s.Group.length))::dv cz 57 ((sg1 5).h 0).1 ((sg1 5).h 0).2 s.Joins::dv cK 62 ((sg1 8).h 0).1 ((sg1 8).h 0).2 s.Group::X)) (by first|(rw [dS (so q_st2)];done)|(rw [dS (so q_st2)];exact rfl)|exact rfl) ?_;refine bu ?_;refine bW ?_;refine aC ?_;refine aO ?_;refine fL (mh (A1 hx1 hN1) (M rfl) hI) rfl ?_;refine fL (bG (M rfl)) rfl ?_;refine bu ?_;refine eG ?_;refine eG ?_;refine fF ?_;refine eG ?_;refine eG ?_;refine eG ?_;refine eG ?_;exact bl (aP (ih1 (i1+1) ({s with Items:=st2}:ae) ⟨eg hx1,h⟩) ⟨rfl,rfl,rfl,rfl,rfl,rfl,rfl,rfl,rfl,rfl,trivial⟩)

def acG(ix:Nat)(q:be){R:be}(h:oL q=some R){s0:ae}(hs0:R.Selects[ix]? =some s0):eJ aY 6 [K bk q] [] (fun i:aci R=>K cH (dd R (Y (i.1.h 0).1 (i.1.h 0).2 R.Selects.length))) (fun i:aci R=>dv av 53 (i.1.h 0).1 (i.1.h 0).2 (i.2.1.set ix (wX (i.1.h 1) (i.1.h 2) (i.1.h 3) s0))::G3 (i.1.h 1) (i.1.h 2) (i.1.h 3) s0):=
 (abc ix q h).imp fun⟨⟨o,ms,X⟩,hm⟩ w S ho=>by
  have ho:du 0 uc w S (dv pl 53 (o.h 0).1 (o.h 0).2 ms::X):=ho
  obtain⟨A,V,h3,h4,h5⟩:=hm
  have A:ms.length=R.Selects.length:=A
  have hlt:=(o5.1 hs0).1
  obtain⟨a,b,c,s,g1,g2,g3⟩:=h5 hlt
  have g3:ms[ix]? =some (.inr (wX a b c s)):=g3
  rw [hs0]at g1
  cases g1
  have g2' :X=G3 a b c s0:=g2
  subst g2'
  obtain⟨cells,k1,k2,k3⟩:=ho.1.1
  obtain⟨ys,e1,e2⟩:=YG (r:=pl) (q:=av) (xs:=ms) rfl k2 (fun x _ cs k=>Wd k) (i:=ix) (by show ix<ms.length;omega) (y:=wX a b c s0) (fun cs k=>by rw [(o5.1 g3).2]at k;exact k)
  have k4:xT w 53 av.sz (o.h 0).1 (o.h 0).2 (ys.set ix (wX a b c s0)).length cells:=by rw [vW,e1];exact k1
  refine⟨(oiL [o.h 0,a,b,c],⟨ys,e1.trans A⟩),⟨⟨⟨cells,k4,e2,k3⟩,ho.1.2⟩,ho.2.1,ho.2.2⟩,fun v k=>k,fun b ⟨f,hf,H⟩=>?_⟩
  rcases f7.1 hf with rfl|hf
  ·exact⟨_,lg ..,H⟩
  ·exact⟨f,li _ hf,H⟩
def acH(q:be){R:be}(h:oL q=some R):eJ aY 6 [K bk q] [] (fun i:OI=>K cH (dd R (Y (i.h 0).1 (i.h 0).2 R.Selects.length))) (fun i:OI=>[dv aR 53 (i.h 0).1 (i.h 0).2 R.Selects]):=
 (abc R.Selects.length q h).imp fun⟨⟨o,ms,X⟩,hm⟩ w S ho=>by
  have ho:du 0 uc w S (dv pl 53 (o.h 0).1 (o.h 0).2 ms::X):=ho
  obtain⟨A,V,h3,h4,h5⟩:=hm
  have g2:X=[]:=h4 (gu _)
  subst g2
  have hms:ms=R.Selects.map .inl:=by
   apply Ga
   intro j
   rw [Dz]
   by_cases hj:j<R.Selects.length
   ·rw [h3 j _ (.inl (by omega)) (qf hj),qf hj];rfl
   ·rw [Ip (by have:ms.length=R.Selects.length:=A;omega),Ip (by omega)];rfl
  subst hms
  obtain⟨cells,k1,k2,k3⟩:=ho.1.1
  have g: ∀(xs:List ae) (cs:List Value),qc pl S cs (xs.map .inl)->qc aR S cs xs:=fun xs=>by
   induction xs with
   |nil=>intro cs h;exact h
   |cons x xs ih=>intro cs h;obtain⟨a,b,e,A,V⟩:=h;exact⟨a,b,e,A,ih b V⟩
  have k4:xT w 53 aR.sz (o.h 0).1 (o.h 0).2 R.Selects.length cells:=by
   have e:(R.Selects.map (Sum.inl:ae->ae ⊕ eX)).length=R.Selects.length:=by simp
   rw [<-e];exact k1
  refine⟨o,⟨⟨⟨cells,k4,g _ _ k2,k3⟩,ho.1.2⟩,(fun _ hf=>by cases hf),trivial⟩,fun v k=>k,fun b ⟨f,hf,H⟩=>⟨_,lg ..,?_⟩⟩
  rcases f7.1 hf with rfl|hf
  ·exact H
  ·cases hf

end Go.Proofs.YtigldkegamffhaaGreatDoor

