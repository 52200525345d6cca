import Derived.Test.YtaehdhmbgmbgiaaGreatDoorKkT
import Derived.Test.YtaehdhmbgmbgiaaGreatDoorKkP12
set_option linter.all false
namespace Go.Proofs.YtaehdhmbgmbgiaaGreatDoor
open Go IntKind Tryz EffOK
set_option maxRecDepth 100000
def adv a1 b{R}(h:uW a1 b=some R):bZ aP 221 [bS a1,bS b] (tT [bS R.1,iF R.2]):=by
 refine cx func221 Y<|aQ<|bU<|ck<|bI<|bc<|bj Y<|dA Y<|cn h Y (fun h=>?_) (fun h=>?_)
 ·exact aQ<|bU<|ck<|cX<|am<|so h▸dM Y Y Y
 ·refine iq<|aD Y<|cC h Xc (JY _) (bN Y) fun r h=>bj Y<|cC h Xc (JY _) (bN Y) fun r1 h=>cj h fun u q_u h=>T (agF (J Y) (J Y) (acy q_u))<|bj Y<|T (jk (J Y) hI)<|bj Y<|T (jk (J Y) hI)<|T (V0 NX (J Y) (J Y))<|cC h afF (WE _ _) (bN Y) fun r2 h=>bL Y Y<|bL Y Y<|iH Y<|iH Y<|bD ?_;exact aw<|jm<|so h▸dM Y Y Y
def ad6 a1 b{R}(h:Ib a1 b=some R):bZ aP 159 [Q ah a1,Q ah b] (tT [Q ah R.1,bS R.2]):=by
 exact cx func159 Y<|aQ<|cg Y<|cg Y<|ax aT bK Y fun b1=>bU<|bI<|aQ<|bq aT Y<|bq aT Y<|cC h Xd (JZ _ _ _) ⟨(J Y),(J Y),(A3 ajZ fun x y h=>adv _ _ h),Z⟩ fun r h=>bL Y Y<|bL Y Y<|aW aT af Y<|aA 4 Y<|bf Y<|so h▸br Y Y ⟨aU aT Y Y Y,aL Y,Z⟩
def adu c{R}(h:Ev c=some R):bZ aP 222 [bS c] (iF R):=by
 exact cx func222 Y<|aQ<|ck<|bI<|aD Y<|dA Y<|bf Y<|so h▸aM Y Y
def WK a1 b{R}(h:wT a1 b=some R):bZ aP 160 [Q ah a1,Q ah b] (tT [Q ah R.1,bS R.2]):=by
 exact cx func160 Y<|aQ<|cg Y<|cg Y<|ax aT bK Y fun b1=>bU<|bI<|aQ<|bq aT Y<|bq aT Y<|cC h afG (WF _ _ _) ⟨(J Y),(J Y),(A3 ajY fun x y h=>adu _ h),Z⟩ fun r h=>bL Y Y<|bL Y Y<|aW aT af Y<|aA 4 Y<|bf Y<|so h▸br Y Y ⟨aU aT Y Y Y,aL Y,Z⟩
def adt do1 a1 b{R}(h:zb do1 a1 b=some R):bZ aP 223 [Q ah a1,Q ah b,bH (rT ((eD aP u7 yG (fun(x:ac×ac)=>do1 x.1 x.2)))) ()] (tT [Q ah R.1,bS R.2]):=by
 refine cx func223 Y<|aQ<|cg Y<|cg Y<|ax aT bK Y fun b1=>bU<|bI<|aQ<|T (yZ afd (J Y))<|bq aT Y<|bq aT Y<|cj h fun r h_ h=>T (hZ (args:=u7) (res:=F6) (f:=(fun(x:ac×ac)=>do1 x.1 x.2)) (x:=((a1,b):ac×ac)) (J Y) h_ ⟨(J Y),(J Y),Z⟩)<|bj Y<|bL Y Y<|bL Y Y<|ax aT bK Y fun b2=>aW aT af Y<|aA 7 Y<|iH Y<|bD ?_;refine aw<|bc<|bj Y<|gw Y<|cn h Y (fun h=>?_) (fun h=>?_)
 ·exact aQ<|bq aT Y<|bj Y<|aW aT af Y<|bf Y<|am<|aF 5 Y<|so h▸br Y Y ⟨aU aT Y Y Y,aL Y,Z⟩
 ·exact iq<|aQ<|bq aT Y<|cC h afP (WN _) (bN Y) fun r1 h=>bL Y Y<|bL Y Y<|aW aT af Y<|bf Y<|aF 5 Y<|so h▸br Y Y ⟨aU aT Y Y Y,aL Y,Z⟩
def QC do1{R}(h:GP do1=some R):bZ aP 161 [(eD aP u7 yG (fun(x:ac×ac)=>do1 x.1 x.2))] ((eD aP u7 yG (fun(x:ac×ac)=>R x.1 x.2))):=by
 exact cx func161 Y<|aQ<|T (JT (J Y))<|T (bu hV)<|bI<|aQ<|T ((show cu _ _ _ _ ((eD aP u7 yG (fun(x:ac×ac)=>(zb do1) x.1 x.2)))from kN (cts:=[bH (rT ((eD aP u7 yG (fun(x:ac×ac)=>do1 x.1 x.2)))) ()]) (caps:=[.tmp 1]) ajX ⟨(J Y),Z⟩ (fun x y h=>adt _ _ _ h)))<|bf Y<|so h▸aM Y Y
def ads l{R}(h:IB l=some R):bZ aP 224 [oA l] (bS R):=by
 refine cx func224 Y<|aQ<|bU<|bI<|aC<|cj h fun e i_ h=>cj h fun e1 Y' h=>?_;refine nQ (ts:=[_,_,_,_,_,_,_,_]) mixed Y Y
  ⟨eX Y Y,
  ⟨dy 3 0 Y Y (bn iG cz Y (J Y) hI i_),
  ⟨fm 1 cz Y Y,
  ⟨eX Y Y,
  ⟨dy 6 3 Y Y (bn iG cz Y (J Y) hI Y'),
  ⟨fm 4 cz Y Y,
  ⟨dX 5 2 8 5 Y Y Y (rE (J Y) (J Y)),
  ⟨dy 9 6 Y Y (Aj Y),
  Z⟩⟩⟩⟩⟩⟩⟩⟩ ?_
 exact aw<|jm<|so h▸aM Y Y
def ad4 a1 b{R}(h:yj a1 b=some R):bZ aP 162 [Q ah a1,Q ah b] (tT [Q ah R.1,bS R.2]):=by
 exact cx func162 Y<|aQ<|cg Y<|cg Y<|ax aT bK Y fun b1=>bU<|bI<|aQ<|bq aT Y<|bq aT Y<|T (aK (r:=ah) (ys:=[a1,b]) (xs:=[.tmp 6,.tmp 7]) li aT Y Y Y Y Y ⟨(J Y),(J Y),Z⟩)<|cC h abo (Qx _ _) ⟨(A3 ajW fun x y h=>ads _ h),(J Y),Z⟩ fun r h=>bL Y Y<|bL Y Y<|aW aT af Y<|aA 4 Y<|bf Y<|so h▸br Y Y ⟨aU aT Y Y Y,aL Y,Z⟩
def adr l{R}(h:KG l=some R):bZ aP 225 [oA l] (bS R):=by
 refine cx func225 Y<|aQ<|bU<|bI<|aC<|cj h fun e i_ h=>cj h fun e1 Y' h=>?_;refine nQ (ts:=[_,_,_,_,_,_,_,_]) mixed Y Y
  ⟨eX Y Y,
  ⟨dy 3 0 Y Y (bn iG cz Y (J Y) hI i_),
  ⟨fm 1 cz Y Y,
  ⟨eX Y Y,
  ⟨dy 6 3 Y Y (bn iG cz Y (J Y) hI Y'),
  ⟨fm 4 cz Y Y,
  ⟨dX 5 2 8 5 Y Y Y (V1 (J Y) (J Y)),
  ⟨dy 9 6 Y Y (Aj Y),
  Z⟩⟩⟩⟩⟩⟩⟩⟩ ?_
 exact aw<|jm<|so h▸aM Y Y
def ad3 a1 b{R}(h:Au a1 b=some R):bZ aP 163 [Q ah a1,Q ah b] (tT [Q ah R.1,bS R.2]):=by
 exact cx func163 Y<|aQ<|cg Y<|cg Y<|ax aT bK Y fun b1=>bU<|bI<|aQ<|bq aT Y<|bq aT Y<|T (aK (r:=ah) (ys:=[a1,b]) (xs:=[.tmp 6,.tmp 7]) li aT Y Y Y Y Y ⟨(J Y),(J Y),Z⟩)<|cC h abo (Qx _ _) ⟨(A3 ajV fun x y h=>adr _ h),(J Y),Z⟩ fun r h=>bL Y Y<|bL Y Y<|aW aT af Y<|aA 4 Y<|bf Y<|so h▸br Y Y ⟨aU aT Y Y Y,aL Y,Z⟩
def aew{R}(h:DK=some R):bZ aP 103 [] (KN (fun y:(ac->ac->Option (ac×Int))=>zw aP u7 yG (fun(x:ac×ac)=>y x.1 x.2)) qh R):=by
 refine cx func103 Y<|aQ<|T (bu (show be _ _ (.const (.map none)) (tV (.map none))from fun _ _ _=>Y))<|bI<|aQ<|cC h akB (aea _) ⟨(A3 abu fun x y h=>QD _ _ h),Z⟩ fun r h=>aS Y<|aQ<|zf (CO (fun y:(ac->ac->Option (ac×Int))=>zw aP u7 yG (fun(x:ac×ac)=>y x.1 x.2))) qh Y fun b=>cC h afQ (WO _) ⟨(A3 akA fun x y h=>ad9 _ h),Z⟩ fun r1 h=>gF (γ:=(fun y:(ac->ac->Option (ac×Int))=>zw aP u7 yG (fun(x:ac×ac)=>y x.1 x.2))) (y:=r1) B9 (eU me) (J Y) (pD hI) (qq (J Y)) fun os=>cC h afQ (WO _) ⟨(A3 afP fun x y h=>WN _ h),Z⟩ fun r2 h=>gF (γ:=(fun y:(ac->ac->Option (ac×Int))=>zw aP u7 yG (fun(x:ac×ac)=>y x.1 x.2))) (y:=r2) B9 (eU me) (J Y) (pD hI) (qq (J Y)) fun os1=>cC h afO (WM _) (bN Y) fun r3 h=>?_;refine gF (γ:=(fun y:(ac->ac->Option (ac×Int))=>zw aP u7 yG (fun(x:ac×ac)=>y x.1 x.2))) (y:=r3) B9 (eU me) (J Y) (pD hI) (qq (J Y)) fun os2=>cC h afO (WM _) (bN Y) fun r4 h=>gF (γ:=(fun y:(ac->ac->Option (ac×Int))=>zw aP u7 yG (fun(x:ac×ac)=>y x.1 x.2))) (y:=r4) B9 (eU me) (J Y) (pD hI) (qq (J Y)) fun os3=>gF (γ:=(fun y:(ac->ac->Option (ac×Int))=>zw aP u7 yG (fun(x:ac×ac)=>y x.1 x.2))) (y:=Ic) B9 (eU me) (J Y) (pD hI) (qq (A3 akz fun x y h=>ad8 _ _ h)) fun os4=>gF (γ:=(fun y:(ac->ac->Option (ac×Int))=>zw aP u7 yG (fun(x:ac×ac)=>y x.1 x.2))) (y:=AS) B9 (eU me) (J Y) (pD hI) (qq (A3 afN fun x y h=>WL _ _ h)) fun os5=>gF (γ:=(fun y:(ac->ac->Option (ac×Int))=>zw aP u7 yG (fun(x:ac×ac)=>y x.1 x.2))) (y:=Ia) B9 (eU me) (J Y) (pD hI) (qq (A3 aky fun x y h=>ad7 _ _ h)) fun os6=>gF (γ:=(fun y:(ac->ac->Option (ac×Int))=>zw aP u7 yG (fun(x:ac×ac)=>y x.1 x.2))) (y:=Ib) B9 (eU me) (J Y) (pD hI) (qq (A3 akx fun x y h=>ad6 _ _ h)) fun os7=>gF (γ:=(fun y:(ac->ac->Option (ac×Int))=>zw aP u7 yG (fun(x:ac×ac)=>y x.1 x.2))) (y:=wT) B9 (eU me) (J Y) (pD hI) (qq (A3 afM fun x y h=>WK _ _ h)) fun os8=>cC h abt (QC _) ⟨(A3 afM fun x y h=>WK _ _ h),Z⟩ fun r5 h=>gF (γ:=(fun y:(ac->ac->Option (ac×Int))=>zw aP u7 yG (fun(x:ac×ac)=>y x.1 x.2))) (y:=r5) B9 (eU me) (J Y) (pD hI) (qq (J Y)) fun os9=>gF (γ:=(fun y:(ac->ac->Option (ac×Int))=>zw aP u7 yG (fun(x:ac×ac)=>y x.1 x.2))) (y:=rW) B9 (eU me) (J Y) (pD hI) (qq (A3 abu fun x y h=>QD _ _ h)) fun os10=>bj Y<|gF (γ:=(fun y:(ac->ac->Option (ac×Int))=>zw aP u7 yG (fun(x:ac×ac)=>y x.1 x.2))) (y:=r) B9 (eU me) (J Y) (pD hI) (qq (J Y)) fun os11=>bj Y<|cC h abt (QC _) (bN Y) fun r6 h=>gF (γ:=(fun y:(ac->ac->Option (ac×Int))=>zw aP u7 yG (fun(x:ac×ac)=>y x.1 x.2))) (y:=r6) B9 (eU me) (J Y) (pD hI) (qq (J Y)) fun os12=>cC h abt (QC _) ⟨(A3 abu fun x y h=>QD _ _ h),Z⟩ fun r7 h=>gF (γ:=(fun y:(ac->ac->Option (ac×Int))=>zw aP u7 yG (fun(x:ac×ac)=>y x.1 x.2))) (y:=r7) B9 (eU me) (J Y) (pD hI) (qq (J Y)) fun os13=>gF (γ:=(fun y:(ac->ac->Option (ac×Int))=>zw aP u7 yG (fun(x:ac×ac)=>y x.1 x.2))) (y:=yj) B9 (eU me) (J Y) (pD hI) (qq (A3 akv fun x y h=>ad4 _ _ h)) fun os14=>gF (γ:=(fun y:(ac->ac->Option (ac×Int))=>zw aP u7 yG (fun(x:ac×ac)=>y x.1 x.2))) (y:=Au) B9 (eU me) (J Y) (pD hI) (qq (A3 aku fun x y h=>ad3 _ _ h)) fun os15=>?_;exact bj Y<|bf Y<|Jp 0 Y<|so h▸aM Y Y
def ahG{l:Option Nat}{c:Nat}{xs s:List ac}{lo:Int}{R}(hs:df xs lo (xs.length:Int)=some s)(h:jg s=some R):dZ aP 165 [tV (sY 4 l c lo.toNat s.length)] [eV ah 72 l c xs] (fun i:OI=>rr (i.h 0).1 (i.h 0).2 R) (fun i=>[eV ah 72 (i.h 0).1 (i.h 0).2 R,eV ah 72 l c xs]):=by
 refine dZ.of func165 Y Y Y fun w0 S0=>aQ<|T (bu tK)<|bI<|bc<|bj Y<|If (r:=ah) li (.head _) hs (J Y) Y fun isnil hisnil=>bI<|tu (J Y) (fun hc=>?_) (fun hc=>?_)
 ·have V:=hisnil hc;have h:some Nj=some R:=by simpa [jg,app,V] using h
  exact aQ<|bJ false ah 72<|T (bu tK)<|cX<|am<|so h▸nO Y (oi none 0) Y Y (fun _ _ h=>h)
 ·exact iq<|aQ<|fF (r:=ah) (ys:=Nj) (xs:=[]) li aT Y Y Y Y Y trivial Y fun l1 c1=>bj Y<|cj h fun x y_ h=>FE aT Y Y Y Y li Y Y (J Y) (.tail _ (.head _)) hs (J Y) y_ fun l2 c2=>bf Y<|so h▸nO Y (oi l2 c2) Y Y (fun _ _ h=>h)
def aaS(b:Nat)(l:Option Nat)(c:Nat) stack k{R}(h:oR stack k=some R):dZ aP 164 [bS k,tV (aE b 0)] [bx rV 67 b (aY l c stack.length),eV ah 72 l c stack] (fun i:OI=>cy (ah) R.1) (fun i=>[bx rV 67 b (aY (i.h 0).1 (i.h 0).2 R.2.length),eV ah 72 (i.h 0).1 (i.h 0).2 R.2]):=by
 refine dZ.of func164 Y Y Y fun w0 S0=>aQ<|kq (ah)<|bI<|aQ<|T (ip PB (.head _) (J Y))<|T (ip PB (.head _) (J Y))<|T (fJ li (.tail _ (.head _)) (J Y))<|bj Y<|T (fq (J Y) (J Y))<|cj h fun y j_ h=>T (qn li aT Y (.tail _ (.head _)) (J Y) (J Y) j_)<|pe (.tail _ (.head _)) j_ fun hv=>bo<|cj h fun r h_ h=>AW [eV ah 72 l c stack] _ Y akt (ahG j_ h_) ⟨(J Y),Z⟩ Y fun i=>?_;refine(show RG _ _ _ _ [_,_,_] _ from ?_);refine aS Y<|aQ<|T (ip PB (.tail _ (.tail _ (.head _))) (J Y))<|T (ip PB (.tail _ (.tail _ (.head _))) (J Y))<|T (fJ li (.tail _ (.head _)) (J Y))<|bj Y<|T (fq (J Y) (J Y))<|cj h fun y1 m_ h=>T (m4 li aT Y (.tail _ (.head _)) (J Y) (J Y) m_)<|bo<|zh m_<|eF<|dc PB Y af Y (J Y) (Hf (J Y))<|bI<|aD Y<|aS Y ?_;exact jm<|aH<|mK<|dn 3 Y<|dn 11 Y<|dn 4 Y<|dn 18 Y<|mL 3 Y<|aO<|bv<|bv<|so h▸nO Y (oi l c) Y Y (fun _ _ h=>h)
def aev e do1{R}(h:lN e do1=some R):bZ aP 104 [Q ap e,(eD aP ab5 yG (fun(x:av×(List ac))=>do1 x.1 x.2))] (tT [Q ah R.1,bS R.2]):=by
 refine cx func104 Y<|aQ<|cg Y<|ax aT bK Y fun b=>bU<|bI<|Ha<|aQ<|bJ false ah 72<|ax (x:=aY none 0 0) PB (fun _=>Hz) Y fun b1=>bI<|aQ<|ax aT bK Y fun b2=>aA 7 Y<|bI<|aQ<|T (LB (cts:=[tV (aE b1 0)]) (caps:=[.tmp 6]) ⟨(J Y),Z⟩) ?_;refine aS Y<|aQ<|bU<|bI<|aC<|Hb<|aw<|bc<|bX fh dV nH Y<|ca j6 Y<|T (bQ hI)<|bI ?_;refine Il (ay:=fun bad stack l c=>jK bad stack=some R) (Of:=fun bad stack l c=>[bx ah 72 b tL,bx rV 67 b1 (aY l c stack.length),eV ah 72 l c stack]) (Gf:=fun bad stack l c=>[(4,tV (aE b 0)),(6,tV (aE b1 0)),(7,bH ah tL),(9,bS bad)]) (fun bad stack l c h=>?_) (fun K=>?_)
 ·skip;refine aw<|bc<|bj Y<|gw Y<|cn h Y (fun h=>?_) (fun h=>?_)
  ·exact aQ<|bq aT Y<|bj Y<|aW aT af Y<|bf Y<|am<|u5<|aF 4 Y<|aO<|aO<|so h▸br Y Y ⟨aU aT Y Y Y,aL Y,Z⟩
  ·exact iq<|aQ<|T (ip PB (.tail _ (.head _)) (J Y))<|cj h fun e1 Y' h=>T (ce li aT (.tail _ (.tail _ (.head _))) (J Y) hI Y')<|T (dj (r:=ah) (i:=0) (foff:=0) aT Y Y bT Y (.tail _ (.tail _ (.head _))) Y' (J Y))<|aW aT af Y<|dd<|u5<|aF 4 Y<|aO<|aO<|so h▸br Y Y ⟨aU aT Y Y Y,aL Y,Z⟩
 ·skip;refine bm (k:=16) Y fun hN=>bM<|dm<|dm<|gS ?_;refine aI (qe (ay:=fun ls i bad1 stack1 l1 c1=>(e.j'.drop i=ls)/\fz do1 ls bad1 stack1=some R) (Of:=fun _ i bad1 stack1 l1 c1=>[bx ah 72 b tL,bx rV 67 b1 (aY l1 c1 stack1.length),eV ah 72 l1 c1 stack1]) (Gf:=fun _ i bad1 stack1 l1 c1=>[(1,(eD aP ab5 yG (fun(x:av×(List ac))=>do1 x.1 x.2))),(4,tV (aE b 0)),(6,tV (aE b1 0)),(7,bH ah tL),(8,tC 164 [tV (aE b1 0)]),(9,bS bad1),(16,cy (aJ) e.j'),(17,iQ e.j'),(18,bS (i:Int))]) (fun i bad1 stack1 l1 c1 h=>?_) (fun e2 tl ih i bad1 stack1 l1 c1 h=>?_) e.j' 0 0 Nj none 0 ⟨Y,h⟩) (bA Y)
  ·obtain⟨V,h⟩:=h;refine dq V Y ?_;exact cQ (K bad1 stack1 l1 c1 h) (bA Y)
  ·obtain⟨V,h⟩:=h;refine dp V Y<|aC<|an<|aQ<|d8 j6 dF Y (de V)<|ax dF mg Y fun b3=>aW dF af Y<|aA 11 Y<|bI<|aC<|cj h fun r h_ h=>cj h fun r1 a_ h=>?_;refine cj h fun r2 d_ h=>?_;refine jQ 13 [tc ((eD aP ab5 yG (fun(x:av×(List ac))=>do1 x.1 x.2))),tc (Q aJ e2),tc (tC 164 [tV (aE b1 0)]),tc (bH cM e2.Tag),tc (bS e2.Tag),tc (bS r),tc (cy (ah) r1.1),tc (tT [Q ah r2.1,bS r2.2]),tc (tT [Q ah r2.1,bS r2.2]),tc (Q ah r2.1),tc (bS r2.2),([11],fun s=>tV (aE ((s.getD 0 tA).h 0).2 0)),tc (Bf)] [false,false,false,false,false,false,true,false,false,false,false,true,true] [([],fun _=>[bx ah 72 b tL,bx rV 67 b1 (aY l1 c1 stack1.length),eV ah 72 l1 c1 stack1]),([6],fun sg=>[bx rV 67 b1 (aY ((sg 6).h 0).1 ((sg 6).h 0).2 r1.2.length),eV ah 72 ((sg 6).h 0).1 ((sg 6).h 0).2 r1.2,bx ah 72 b tL]),([11],fun sg=>[bx ah 72 ((sg 11).h 0).2 tL,bx ah 72 b tL,bx rV 67 b1 (aY l1 c1 stack1.length),eV ah 72 l1 c1 stack1]),([6,11],fun sg=>[bx ah 72 ((sg 11).h 0).2 tL,bx rV 67 b1 (aY ((sg 6).h 0).1 ((sg 6).h 0).2 r1.2.length),eV ah 72 ((sg 6).h 0).1 ((sg 6).h 0).2 r1.2,bx ah 72 b tL]),([6,11,12],fun sg=>[bx ah 72 ((sg 11).h 0).2 r2.1,bx rV 67 b1 (aY ((sg 6).h 0).1 ((sg 6).h 0).2 r1.2.length),eV ah 72 ((sg 6).h 0).1 ((sg 6).h 0).2 r1.2,bx ah 72 b tL])] (fun _=>Y) mixed Y Y Y Y
    ⟨⟨[⟨1,fun _=>(eD aP ab2 F6 (fun(x:av×(List ac))=>do1 x.1 x.2)),none⟩],_,[[],[6],[11],[6,11]],Y,⟨(fun _=>Y),Z⟩,Y,Y,Y,Y,Y,⟨fun sg=>ae Y (l0 Y),fun sg=>ae Y (l0 Y),fun sg=>ae Y (l0 Y),fun sg=>ae Y (l0 Y),Z⟩⟩,
    ⟨⟨[⟨11,fun _=>bH aJ e2,none⟩],_,[[],[6],[11],[6,11]],Y,⟨(fun _=>Y),Z⟩,Y,Y,Y,Y,Y,⟨fun sg=>ae Y (np dF Y Y),fun sg=>ae Y (np dF Y Y),fun sg=>ae Y (np dF Y Y),fun sg=>ae Y (np dF Y Y),Z⟩⟩,
    ⟨⟨[⟨8,fun _=>tC 164 [tV (aE b1 0)],none⟩],_,[[],[11]],Y,⟨(fun _=>Y),Z⟩,Y,Y,Y,Y,Y,⟨fun sg=>ae Y (l0 Y),fun sg=>ae Y (l0 Y),Z⟩⟩,
    ⟨⟨[⟨11,fun _=>bH aJ e2,none⟩],_,[[],[11]],Y,⟨(fun _=>Y),Z⟩,Y,Y,Y,Y,Y,⟨fun sg=>ae Y (mW lE fy Y Y),fun sg=>ae Y (mW lE fy Y Y),Z⟩⟩,
    ⟨⟨[⟨26,fun _=>bH cM e2.Tag,some 3⟩],_,[[],[11]],Y,⟨(fun _=>Y),Z⟩,Y,Y,Y,Y,Y,⟨fun sg=>ae Y (np cz Y Y),fun sg=>ae Y (np cz Y Y),Z⟩⟩,
    ⟨⟨[⟨27,fun _=>Q cM e2.Tag,some 4⟩],_,[[],[11]],Y,⟨(fun _=>Y),Z⟩,Y,Y,Y,Y,Y,⟨fun sg=>ae Y (bG O4 (DG _ h_) ⟨(J Y),Z⟩),fun sg=>ae Y (bG O4 (DG _ h_) ⟨(J Y),Z⟩),Z⟩⟩,
    ⟨⟨[⟨25,fun _=>tC 164 [tV (aE b1 0)],some 2⟩,⟨28,fun _=>Q cM r,some 5⟩],_,[([],[6]),([11],[6,11])],Y,⟨(fun _=>Y),(fun _=>Y),Z⟩,Y,Y,Y,Y,Y,⟨fun sg=>cw Y (fr2 (fr2 (AO (xs:=[.tmp 28]) (ts:=[Q cM r]) (cts:=[tV (aE b1 0)]) [bx rV 67 b1 (aY l1 c1 stack1.length),eV ah 72 l1 c1 stack1] _ Y afL (aaS b1 l1 c1 _ _ a_) (J Y) ⟨(J Y),Z⟩ (fun _=>Y)))),fun sg=>cw Y (post_imp (post:=fun x__=>(fun(sg:Nat->OI)=>[bx rV 67 b1 (aY ((sg 6).h 0).1 ((sg 6).h 0).2 r1.2.length),eV ah 72 ((sg 6).h 0).1 ((sg 6).h 0).2 r1.2,bx ah 72 ((sg 11).h 0).2 tL,bx ah 72 b tL]) (upd sg 6 x__)) (fr3 (fr3 (AO (xs:=[.tmp 28]) (ts:=[Q cM r]) (cts:=[tV (aE b1 0)]) [bx rV 67 b1 (aY l1 c1 stack1.length),eV ah 72 l1 c1 stack1] _ Y afL (aaS b1 l1 c1 _ _ a_) (J Y) ⟨(J Y),Z⟩ (fun _=>Y)))) (fun h=>dW.pick [2,0,1,3] Y h)),Z⟩⟩,
    ⟨⟨[⟨23,fun _=>(eD aP ab2 F6 (fun(x:av×(List ac))=>do1 x.1 x.2)),some 0⟩,⟨24,fun _=>Q aJ e2,some 1⟩,⟨29,fun _=>Q d6 r1.1,some 6⟩],_,[[6],[6,11]],Y,⟨(fun _=>Y),(fun _=>Y),(fun _=>Y),Z⟩,Y,Y,Y,Y,Y,⟨fun sg=>ae Y (hZ (args:=ab2) (res:=F6) (f:=(fun(x:av×(List ac))=>do1 x.1 x.2)) (x:=((e2,r1.1):av×(List ac))) (J Y) d_ ⟨(J Y),(J Y),Z⟩),fun sg=>ae Y (hZ (args:=ab2) (res:=F6) (f:=(fun(x:av×(List ac))=>do1 x.1 x.2)) (x:=((e2,r1.1):av×(List ac))) (J Y) d_ ⟨(J Y),(J Y),Z⟩),Z⟩⟩,
    ⟨⟨[⟨30,fun _=>tT [Q ah r2.1,Q cM r2.2],some 7⟩],_,[[6],[6,11]],Y,⟨(fun _=>Y),Z⟩,Y,Y,Y,Y,Y,⟨fun sg=>ae Y (l0 Y),fun sg=>ae Y (l0 Y),Z⟩⟩,
    ⟨⟨[⟨22,fun _=>tT [Q ah r2.1,Q cM r2.2],some 8⟩],_,[[6],[6,11]],Y,⟨(fun _=>Y),Z⟩,Y,Y,Y,Y,Y,⟨fun sg=>ae Y (yi Y Y),fun sg=>ae Y (yi Y Y),Z⟩⟩,
    ⟨⟨[⟨22,fun _=>tT [Q ah r2.1,Q cM r2.2],some 8⟩],_,[[6],[6,11],[6,11,12]],Y,⟨(fun _=>Y),Z⟩,Y,Y,Y,Y,Y,⟨fun sg=>ae Y (yi Y Y),fun sg=>ae Y (yi Y Y),fun sg=>ae Y (yi Y Y),Z⟩⟩,
    ⟨⟨[],_,[([],[11]),([6],[6,11])],Y,Z,Y,Y,Y,Y,Y,⟨fun sg=>cw Y (kQ aT bK),fun sg=>cw Y (kQ aT bK),Z⟩⟩,
    ⟨⟨[⟨12,fun sg=>tV (aE ((sg 11).h 0).2 0),some 11⟩,⟨31,fun _=>Q ah r2.1,some 9⟩],_,[([6,11],[6,11,12])],Y,⟨(fun _=>Y),(fun _=>Y),Z⟩,Y,Y,Y,Y,Y,⟨fun sg=>cw Y (jY aT Y (vq af) Y (J Y) (J Y)),Z⟩⟩,
    Z⟩⟩⟩⟩⟩⟩⟩⟩⟩⟩⟩⟩⟩ (fun sg=>?_)
   refine(show RG _ _ _ _ [_,_,_,_] _ from ?_);refine aA 12 Y<|aS Y<|bc<|bj Y<|gw Y<|cn h Y (fun h=>?_) (fun h=>?_)
   ·refine aD Y<|aS Y<|ji<|bh<|cT Y<|bh<|bh<|d5<|bv<|bv<|aH ?_;exact cQ (K r2.2 r1.2 ((sg 6).h 0).1 ((sg 6).h 0).2 h) (bA Y)
   ·refine iq<|aG<|T (ip PB (.head _) (J Y))<|bq aT Y<|T (aK (r:=ah) (ys:=[r2.1]) (xs:=[.tmp 37]) li aT Y Y Y Y Y ⟨(J Y),Z⟩)<|bo<|cj h fun l2 w_ h=>cD aT Y Y Y Y li Y Y (J Y) (J Y) w_ fun l3 c2=>bo<|dc PB Y af Y (J Y) (Hf (J Y))<|bD<|cV V hN Y<|bv<|bv<|aH ?_;exact bg (aI (ih (i+1) bad1 l2 l3 c2 ⟨cJ V,h⟩) (bA Y))
def aeu r do1 n l{R}(h:lY r do1 n l=some R):bZ aP 105 [Q aJ n,cy (ah) l,bH d6 r,bH (rT (KN (fun y:(ac->ac->Option (ac×Int))=>zw aP u7 yG (fun(x:ac×ac)=>y x.1 x.2)) qh do1)) ()] (tT [Q ah R.1,bS R.2]):=by
 refine cx func105 Y<|aQ<|cg Y<|ax aT bK Y fun b=>bU<|bI<|bc<|bX lE fy cz Y<|bI<|an<|aQ<|dA Y<|aS Y<|px h Y (fun h=>?_) (fun h=>?_)
 ·exact aQ<|bX BE pn aT Y<|aW aT af Y<|dd<|cR<|aF 6 Y<|so h▸br Y Y ⟨aU aT Y Y Y,aL Y,Z⟩
 ·refine aQ<|dA Y<|aS Y<|px h Y (fun h=>?_) (fun h=>?_)
  ·exact aQ<|bq ja Y<|bX rG lD cz Y<|cj h fun e i_ h=>d8 oT aT Y i_<|aW aT af Y<|dd<|cR<|aF 6 Y<|so h▸br Y Y ⟨aU aT Y Y Y,aL Y,Z⟩
  ·refine bO<|bt<|aw<|aC<|cj h fun e1 Y' h=>cj h fun e2 b_ h=>cj h fun r1 a_ h=>?_;refine jQ 19 [tc (KN (fun y:(ac->ac->Option (ac×Int))=>zw aP u7 yG (fun(x:ac×ac)=>y x.1 x.2)) qh do1),tc (bH cM n.Tag),tc (bS n.Tag),tc (tFo aP u7 yG ((m5 do1 n.Tag).map (fun y:(ac->ac->Option (ac×Int))=>(fun(x:ac×ac)=>y x.1 x.2)))),tc (cy (ah) l),tc (bH ah e1),tc (Q ah e1),tc (cy (ah) l),tc (cy (ah) l),tc (iQ l),tc (bS (i64.wrap ((l.length:Int)-1))),tc (bH ah e2),tc (Q ah e2),tc (tT [Q ah r1.1,bS r1.2]),tc (tT [Q ah r1.1,bS r1.2]),tc (Q ah r1.1),tc (bS r1.2),([17],fun s=>tV (aE ((s.getD 0 tA).h 0).2 0)),tc (Bf)] [false,false,false,false,false,false,false,false,false,false,false,false,false,false,false,false,false,true,true] [([],fun _=>[bx ah 72 b tL]),([17],fun sg=>[bx ah 72 ((sg 17).h 0).2 tL,bx ah 72 b tL]),([17,18],fun sg=>[bx ah 72 ((sg 17).h 0).2 r1.1,bx ah 72 b tL])] (fun _=>Y) mixed Y Y Y Y
    ⟨⟨[⟨3,fun _=>bH (rT (KN (fun y:(ac->ac->Option (ac×Int))=>zw aP u7 F6 (fun(x:ac×ac)=>y x.1 x.2)) qh do1)) (),none⟩],_,[[],[17]],Y,⟨(fun _=>Y),Z⟩,Y,Y,Y,Y,Y,⟨fun sg=>ae Y (yZ VI (J Y)),fun sg=>ae Y (yZ VI (J Y)),Z⟩⟩,
    ⟨⟨[⟨4,fun _=>bH aJ n,none⟩],_,[[],[17]],Y,⟨(fun _=>Y),Z⟩,Y,Y,Y,Y,Y,⟨fun sg=>ae Y (mW lE fy Y Y),fun sg=>ae Y (mW lE fy Y Y),Z⟩⟩,
    ⟨⟨[⟨25,fun _=>bH cM n.Tag,some 1⟩],_,[[],[17]],Y,⟨(fun _=>Y),Z⟩,Y,Y,Y,Y,Y,⟨fun sg=>ae Y (np cz Y Y),fun sg=>ae Y (np cz Y Y),Z⟩⟩,
    ⟨⟨[⟨24,fun _=>KN (fun y:(ac->ac->Option (ac×Int))=>zw aP u7 F6 (fun(x:ac×ac)=>y x.1 x.2)) qh do1,some 0⟩,⟨26,fun _=>Q cM n.Tag,some 2⟩],_,[[],[17]],Y,⟨(fun _=>Y),(fun _=>Y),Z⟩,Y,Y,Y,Y,Y,⟨fun sg=>ae Y (CM (args:=u7) (res:=F6) (F:=(fun y:(ac->ac->Option (ac×Int))=>(fun(x:ac×ac)=>y x.1 x.2))) B9 (eU me) ae5 (J Y) (pD (J Y))),fun sg=>ae Y (CM (args:=u7) (res:=F6) (F:=(fun y:(ac->ac->Option (ac×Int))=>(fun(x:ac×ac)=>y x.1 x.2))) B9 (eU me) ae5 (J Y) (pD (J Y))),Z⟩⟩,
    ⟨⟨[⟨1,fun _=>Q d6 l,none⟩],_,[[],[17]],Y,⟨(fun _=>Y),Z⟩,Y,Y,Y,Y,Y,⟨fun sg=>ae Y (l0 Y),fun sg=>ae Y (l0 Y),Z⟩⟩,
    ⟨⟨[⟨28,fun _=>Q d6 l,some 4⟩],_,[[],[17]],Y,⟨(fun _=>Y),Z⟩,Y,Y,Y,Y,Y,⟨fun sg=>ae Y (bn li aT Y (J Y) hI Y'),fun sg=>ae Y (bn li aT Y (J Y) hI Y'),Z⟩⟩,
    ⟨⟨[⟨29,fun _=>bH ah e1,some 5⟩],_,[[],[17]],Y,⟨(fun _=>Y),Z⟩,Y,Y,Y,Y,Y,⟨fun sg=>ae Y (np aT Y Y),fun sg=>ae Y (np aT Y Y),Z⟩⟩,
    ⟨⟨[⟨1,fun _=>Q d6 l,none⟩],_,[[],[17]],Y,⟨(fun _=>Y),Z⟩,Y,Y,Y,Y,Y,⟨fun sg=>ae Y (l0 Y),fun sg=>ae Y (l0 Y),Z⟩⟩,
    ⟨⟨[⟨1,fun _=>Q d6 l,none⟩],_,[[],[17]],Y,⟨(fun _=>Y),Z⟩,Y,Y,Y,Y,Y,⟨fun sg=>ae Y (l0 Y),fun sg=>ae Y (l0 Y),Z⟩⟩,
    ⟨⟨[⟨32,fun _=>Q d6 l,some 8⟩],_,[[],[17]],Y,⟨(fun _=>Y),Z⟩,Y,Y,Y,Y,Y,⟨fun sg=>ae Y (XN li Y),fun sg=>ae Y (XN li Y),Z⟩⟩,
    ⟨⟨[⟨33,fun _=>Q cM (l.length:Int),some 9⟩],_,[[],[17]],Y,⟨(fun _=>Y),Z⟩,Y,Y,Y,Y,Y,⟨fun sg=>ae Y (fq (J Y) hI),fun sg=>ae Y (fq (J Y) hI),Z⟩⟩,
    ⟨⟨[⟨31,fun _=>Q d6 l,some 7⟩,⟨34,fun _=>Q cM (i64.wrap ((l.length:Int)-1)),some 10⟩],_,[[],[17]],Y,⟨(fun _=>Y),(fun _=>Y),Z⟩,Y,Y,Y,Y,Y,⟨fun sg=>ae Y (Ky li aT Y Y Y b_),fun sg=>ae Y (Ky li aT Y Y Y b_),Z⟩⟩,
    ⟨⟨[⟨35,fun _=>bH ah e2,some 11⟩],_,[[],[17]],Y,⟨(fun _=>Y),Z⟩,Y,Y,Y,Y,Y,⟨fun sg=>ae Y (np aT Y Y),fun sg=>ae Y (np aT Y Y),Z⟩⟩,
    ⟨⟨[⟨27,fun _=>tFo aP u7 F6 ((m5 do1 n.Tag).map (fun y:(ac->ac->Option (ac×Int))=>(fun(x:ac×ac)=>y x.1 x.2))),some 3⟩,⟨30,fun _=>Q ah e1,some 6⟩,⟨36,fun _=>Q ah e2,some 12⟩],_,[[],[17]],Y,⟨(fun _=>Y),(fun _=>Y),(fun _=>Y),Z⟩,Y,Y,Y,Y,Y,⟨fun sg=>ae Y (HH (args:=u7) (res:=F6) (f:=(fun z=>((m5 do1 n.Tag)).bind fun y=>((fun(x:ac×ac)=>y x.1 x.2)) z)) (x:=((e1,e2):ac×ac)) (hFo (J Y)) a_ ⟨(J Y),(J Y),Z⟩),fun sg=>ae Y (HH (args:=u7) (res:=F6) (f:=(fun z=>((m5 do1 n.Tag)).bind fun y=>((fun(x:ac×ac)=>y x.1 x.2)) z)) (x:=((e1,e2):ac×ac)) (hFo (J Y)) a_ ⟨(J Y),(J Y),Z⟩),Z⟩⟩,
    ⟨⟨[⟨37,fun _=>tT [Q ah r1.1,Q cM r1.2],some 13⟩],_,[[],[17]],Y,⟨(fun _=>Y),Z⟩,Y,Y,Y,Y,Y,⟨fun sg=>ae Y (l0 Y),fun sg=>ae Y (l0 Y),Z⟩⟩,
    ⟨⟨[⟨23,fun _=>tT [Q ah r1.1,Q cM r1.2],some 14⟩],_,[[],[17]],Y,⟨(fun _=>Y),Z⟩,Y,Y,Y,Y,Y,⟨fun sg=>ae Y (yi Y Y),fun sg=>ae Y (yi Y Y),Z⟩⟩,
    ⟨⟨[⟨23,fun _=>tT [Q ah r1.1,Q cM r1.2],some 14⟩],_,[[],[17],[17,18]],Y,⟨(fun _=>Y),Z⟩,Y,Y,Y,Y,Y,⟨fun sg=>ae Y (yi Y Y),fun sg=>ae Y (yi Y Y),fun sg=>ae Y (yi Y Y),Z⟩⟩,
    ⟨⟨[],_,[([],[17])],Y,Z,Y,Y,Y,Y,Y,⟨fun sg=>cw Y (kQ aT bK),Z⟩⟩,
    ⟨⟨[⟨8,fun sg=>tV (aE ((sg 17).h 0).2 0),some 17⟩,⟨38,fun _=>Q ah r1.1,some 15⟩],_,[([17],[17,18])],Y,⟨(fun _=>Y),(fun _=>Y),Z⟩,Y,Y,Y,Y,Y,⟨fun sg=>cw Y (jY aT Y (vq af) Y (J Y) (J Y)),Z⟩⟩,
    Z⟩⟩⟩⟩⟩⟩⟩⟩⟩⟩⟩⟩⟩⟩⟩⟩⟩⟩⟩ (fun sg=>?_)
   refine(show RG _ _ _ _ [_,_] _ from ?_);refine aA 8 Y<|aS Y ?_;refine j8 (ay:=fun no=>vL r1 no=some R) (Of:=fun no=>[bx ah 72 b tL]) (Gf:=fun no=>[(6,tV (aE b 0)),(8,bH ah r1.1),(9,bS no)]) (fun no h=>?_) (fun K=>?_)
   ·skip;exact aQ<|bq aT Y<|bj Y<|aW aT af Y<|bf Y<|aF 6 Y<|so h▸br Y Y ⟨aU aT Y Y Y,aL Y,Z⟩
   ·skip;refine aD Y<|gw Y<|bj Y<|bk Y (fa Y)<|bk Y (Et Y)<|i9 Y<|cn h Y (fun h=>?_) (fun h=>?_)
    ·refine aG<|bU<|bD ?_;exact cQ (K 201 h) (bA Y)
    ·refine bO ?_;exact cQ (K r1.2 h) (bA Y)
