/- du of this claim: P4. -/
import Derived.Test.YthbdkceckjihgaaGreatDoorBbT
import Derived.Test.YthbdkceckjihgaaGreatDoorBbP3
set_option linter.all false
namespace Go.Proofs.YthbdkceckjihgaaGreatDoor
open Go
set_option maxRecDepth 100000

def YM tag{R}(h:yO tag=some R):cI aZ 63 [bd tag] (im R):=by
 exact dm Tryz.func63 I<|aY<|bw<|bO<|aH I<|dw I<|aX I<|au I (da I)<|au I (fun D=>fh (bF I D) hI)<|au I (q7 I)<|ej I I I I (fun D=>gH I)<|ej I I I I (fun D=>kD (bF I D) hI)<|au I (fun D=>jw (bF I D) (fun Y=>(bF I (si D Y))))<|eu I<|be I<|so h▸aq I I

def YN kinds n l{R}(h:kI kinds n l=some R):cI aZ 62 [H br n,pE l,bt Zq kinds] (tT [bd R.1,bd R.2]):=by
 refine dm Tryz.func62 I<|aY<|cK I<|bG<|bG<|bO<|aY<|bG<|bO<|aT<|aX I<|bW fH I<|Q (bC hI)<|bO<|ai<|aO (k:=12) I fun hN=>bp ?_;refine ay (j8 (h2:=fun ls i own=>(l.drop i=ls)/\nq kinds n ls own=some R) (Of:=fun _ i own=>[]) (Gf:=fun _ i own=>[(2,bt Zq kinds),(3,bt br n),(7,bd own),(12,pE l),(13,iK l),(14,bd (i:Int))]) (fun i own h=>?_) (fun e tl ih i own h=>?_) l 0 (0:Int) ⟨I,h⟩) (bb I)
 ·obtain⟨A,h⟩:=h
  refine dh A I<|av<|aH I<|bj I<|aY<|bG<|bO ?_;refine aD<|ai<|aY<|ba mZ gQ cF I<|dw I<|bj I<|mA h I (fun h=>?_) (fun h=>?_)
  ·exact aY<|oK wB nV I<|ba tB pm cF I<|gE I<|dJ<|bZ<|so h▸cX I I I
  ·refine aY<|ba mZ gQ cF I<|dw I<|bj I<|mA h I (fun h=>?_) (fun h=>?_)
   ·exact aY<|cC fL I<|ba pW jz cF I<|cq h fun e1 q_e1 h=>dE fH cF I q_e1<|gE I<|dJ<|bZ<|so h▸cX I I I
   ·refine aY<|ba mZ gQ cF I<|eo h acE (YM _) (dd I) fun r h=>bj I<|mA h I (fun h=>?_) (fun h=>?_)
    ·refine aJ<|bG<|bG<|bz<|bq<|av<|aT<|aX I<|dw I<|aX I<|au I (da I)<|au I (tN I)<|au I (q7 I)<|ej I I I I (fun D=>gH I)<|ej I I I I (fun D=>gH I)<|ej I I I I (fun D=>dZ (bF I D) (bF I D))<|au I (fun D=>jw (bF I D) (fun Y=>(bF I (si D Y))))<|eu I<|bY h I (fun h=>?_) (fun h=>?_)
     ·exact aY<|bG<|dJ<|af<|so h▸cX I I I
     ·exact gC<|aH I<|gE I<|dJ<|so h▸cX I I I
    ·refine aY<|ba mZ gQ cF I<|dw I<|aX I<|au I (bR mZ gQ I I)<|au I (bM cF I I)<|au I (mV I)<|eu I<|aX I<|au I (bR mZ gQ I I)<|au I (bM cF I I)<|au I (mV I)<|eu I<|bj I<|mA h I (fun h=>?_) (fun h=>?_)
     ·refine aJ<|bG<|bz<|bq<|av<|aT<|aX I<|dw I<|aX I<|au I (da I)<|au I (tN I)<|au I (q7 I)<|ej I I I I (fun D=>gH I)<|ej I I I I (fun D=>gH I)<|ej I I I I (fun D=>dZ (bF I D) (bF I D))<|au I (fun D=>jw (bF I D) (fun Y=>(bF I (si D Y))))<|eu I<|bY h I (fun h=>?_) (fun h=>?_)
      ·exact aY<|bG<|dJ<|af<|so h▸cX I I I
      ·exact gC<|aH I<|gE I<|dJ<|so h▸cX I I I
     ·refine bk<|bq<|av<|aT<|aX I<|dw I<|aX I<|au I (da I)<|au I (tN I)<|au I (q7 I)<|ej I I I I (fun D=>gH I)<|ej I I I I (fun D=>gH I)<|ej I I I I (fun D=>dZ (bF I D) (bF I D))<|au I (fun D=>jw (bF I D) (fun Y=>(bF I (si D Y))))<|eu I<|bY h I (fun h=>?_) (fun h=>?_)
      ·exact aY<|bG<|dJ<|af<|so h▸cX I I I
      ·exact gC<|aH I<|gE I<|dJ<|so h▸cX I I I
 ·obtain⟨A,h⟩:=h
  refine dg A I<|aD<|ai<|aY<|dE fH cF I (df A)<|bj I<|ai<|aH I<|dw I ?_;refine aX I<|au I (da I)<|au I (da I)<|au I (fun D=>mg (bF I D) (bF I D))<|eu I<|bj I<|mA h I (fun h=>?_) (fun h=>?_)
  ·refine bk<|bq<|cR A hN I ?_;exact aS (ay (ih (i+1) own ⟨cM A,h⟩) (bb I))
  ·refine aH I<|dw I<|bj I<|mA h I (fun h=>?_) (fun h=>?_)
   ·refine aJ<|aX I<|gE I<|bz<|bq<|cR A hN I ?_;exact aS (ay (ih (i+1) e ⟨cM A,h⟩) (bb I))
   ·refine aJ<|bG<|bz<|bq<|cR A hN I ?_;exact aS (ay (ih (i+1) mi ⟨cM A,h⟩) (bb I))

def Ke e kinds{R}(h:s0 e kinds=some R):cI aZ 19 [H ac e,pE kinds] (tT [bd R.1,bd R.2]):=by
 refine dm Tryz.func19 I<|aY<|cK I<|cK I<|bG<|bG<|bO<|aT<|cC bD I<|eo h WA (Ka _) (dd I) fun r h=>bj I<|aH I<|gW I<|bO ?_;refine mA h I (fun h=>?_) (fun h=>?_)
 ·exact aH I<|bG<|be I<|af<|so h▸cX I I I
 ·refine gC<|aT<|cC fL I<|bW fH I<|Q (bC hI)<|bO<|ai<|aO (k:=16) I fun hN=>bp ?_;refine ay (dz (h2:=fun ls i=>(kinds.drop i=ls)/\r0 e kinds ls=some R) (Of:=fun _ i=>[]) (Gf:=fun _ i=>[(2,bt ac e),(3,bt Zq kinds),(16,pE kinds),(17,iK kinds),(18,bd (i:Int))]) (fun i h=>?_) (fun e1 tl ih i h=>?_) kinds 0 ⟨I,h⟩) (bb I)
  ·obtain⟨A,h⟩:=h
   refine dh A I<|av<|aT<|cC bD I<|F8 h acH (Vo _) (dd I) fun r1 h l c=>Q (iv fH (.head _) (M I))<|Q (bC hI)<|bO<|ai ?_;refine n9 (.head _) fun hN1=>bp ?_;refine ay (dz (h2:=fun ls1 i1=>(r1.drop i1=ls1)/\nZ e kinds ls1=some R) (Of:=fun _ i1=>[gb aP 3 l c r1]) (Gf:=fun _ i1=>[(2,bt ac e),(3,bt Zq kinds),(30,sn l c r1),(31,iK r1),(32,bd (i1:Int))]) (fun i1 h=>?_) (fun e2 tl1 ih1 i1 h=>?_) r1 0 ⟨I,h⟩) (bb I)
   ·obtain⟨hx1,h⟩:=h
    refine dh hx1 I<|av<|aY<|cC bD I<|Q ((show cE _ _ _ _ ((gV aZ UM UL (fun(x:aC×(List Int))=>(kI kinds) x.1 x.2)))from pf (cts:=[bt Zq kinds]) (caps:=[.tmp 3]) acF ⟨(M I),d⟩ (fun x y h=>YN _ _ _ h)))<|eo h acG (YO _ _) (dd I) fun r2 h=>cY I I<|cY I I<|gE I<|gE I<|bz ?_;exact av<|wY<|aM<|so h▸cX I I I
   ·obtain⟨hx1,h⟩:=h
    refine dg hx1 I<|aD<|ai<|aY<|Q (cy fH cF (.head _) (M I) (M I) (df hx1))<|Q (dQ (r:=aP) (i:=(i1:Int)) (foff:=0) cF I I cD I (.head _) (df hx1) (M I))<|bj I<|aH I<|cC fL I<|bW fH I ?_;refine Q (fh (M I) (M I))<|bY h I (fun h=>?_) (fun h=>?_)
    ·exact aY<|bG<|dJ<|bZ<|af<|bZ<|aM<|so h▸cX I I I
    ·refine bk<|cR hx1 hN1 I ?_;exact aS (ay (ih1 (i1+1) ⟨cM hx1,h⟩) (bb I))
  ·obtain⟨A,h⟩:=h
   refine dg A I<|aD<|ai<|aY<|dE fH cF I (df A)<|bj I<|aH I<|Q (eP (M I) hI)<|aX I ?_;refine au I (da I)<|au I (fun D=>fa (bF I D) hI)<|eu I<|bY h I (fun h=>?_) (fun h=>?_)
   ·exact aY<|bG<|dJ<|bZ<|af<|bZ<|so h▸cX I I I
   ·refine bk<|cR A hN I ?_;exact aS (ay (ih (i+1) ⟨cM A,h⟩) (bb I))

def To{R}(h:qI=some R):cI aZ 76 [] (DC (fun y:Int=>bd y) uJ R):=by
 exact dm Tryz.func76 I<|aY<|Q (cg (show bf _ _ (.const (.map none)) (tV (.map none))from fun _ _ _=>I))<|bO<|aY<|BV (JQ (fun y:Int=>bd y)) uJ I fun b=>Dl (γ:=(fun y:Int=>bd y)) (y:=(1:Int)) FY (xY yW) (M I) (NI hI) hI fun os=>Dl (γ:=(fun y:Int=>bd y)) (y:=(2:Int)) FY (xY yW) (M I) (NI hI) hI fun os1=>Dl (γ:=(fun y:Int=>bd y)) (y:=(3:Int)) FY (xY yW) (M I) (NI hI) hI fun os2=>Dl (γ:=(fun y:Int=>bd y)) (y:=(4:Int)) FY (xY yW) (M I) (NI hI) hI fun os3=>Dl (γ:=(fun y:Int=>bd y)) (y:=(5:Int)) FY (xY yW) (M I) (NI hI) hI fun os4=>aX I<|be I<|MC 0 I<|so h▸aq I I

def Y5(l:Option Nat)(c:Nat) out e{R}(h:Au out e=some R):ea aZ 235 [sn l c out,H ac e] [K br 106 l c out] (fun i:OI=>tO br (i.h 0).1 (i.h 0).2 R) (fun i=>[K br 106 (i.h 0).1 (i.h 0).2 R]):=by
 refine ea.of Tryz.func235 I I I fun w0 S0=>Uu 0 I<|aY<|cK I<|cj false br 106<|Q (cg y6)<|bO<|aH I<|Q (fN mz (kB (M I)))<|bj I<|aT<|ba j4 gn sv I<|bW mz I<|Q (bC hI)<|bz ?_;refine av<|ai<|aO (k:=11) I fun hN=>bp<|yA ?_;refine ay (jF (h2:=fun ls i out1 l1 c1=>(e.Nodes.drop i=ls)/\kw out ls out1=some R) (Of:=fun _ i out1 l1 c1=>[K br 106 l1 c1 out1]) (Gf:=fun _ i out1 l1 c1=>[(0,tO br l1 c1 out1),(5,iK out),(11,fm (br) e.Nodes),(12,iK e.Nodes),(13,bd (i:Int))]) (fun i out1 l1 c1 h=>?_) (fun e1 tl ih i out1 l1 c1 h=>?_) e.Nodes 0 out l c ⟨I,h⟩) (bb I)
 ·obtain⟨A,h⟩:=h
  exact dh A I<|av<|aH I<|be I<|so h▸er I (oi l1 c1) I I (fun _ _ h=>h)
 ·obtain⟨A,h⟩:=h
  refine dg A I<|aD<|ai<|aY<|dE mz eJ I (df A)<|aV eJ iS I fun b=>bL eJ aj I<|bO ?_;refine ig (h2:=fun n=>rZ out (kw out tl) out1 n=some R) (Of:=fun n=>[K br 106 l1 c1 out1,bx br 106 b n]) (Gf:=fun n=>[(0,tO br l1 c1 out1),(5,iK out),(7,tV (an b 0)),(11,fm (br) e.Nodes),(12,iK e.Nodes),(13,bd (i:Int))]) (fun n h=>?_) (fun ax=>?_)
  ·skip
   refine ig (h2:=fun n1=>rY (kw out tl) out1 n1=some R) (Of:=fun n1=>[K br 106 l1 c1 out1,bx br 106 b n1]) (Gf:=fun n1=>[(0,tO br l1 c1 out1),(5,iK out),(7,tV (an b 0)),(11,fm (br) e.Nodes),(12,iK e.Nodes),(13,bd (i:Int))]) (fun n1 h=>?_) (fun K1=>?_)
   ·skip
    refine aJ<|aX I<|Q (bB eJ I I cD (.tail _ (.head _)) (M I))<|Q (a8 (r:=br) (ys:=[n1]) (xs:=[.tmp 34]) mz eJ I I I I I ⟨(M I),d⟩)<|cq h fun out2 q_out2 h=>me eJ I I I I mz I I (M I) (M I) q_out2 fun l2 c2=>gE I<|bz<|cR A hN I<|dM<|aM ?_;exact aS (ay (ih (i+1) out2 l2 c2 ⟨cM A,h⟩) (bb I))
   ·skip
    refine aY<|bv 2 nX I<|Q (bB cF I I mb (.tail _ (.head _)) (M I))<|Q (fh (M I) hI)<|bY h I (fun h=>?_) (fun h=>?_)
    ·refine aJ<|bv 2 nX I<|Q (bB cF I I mb (.tail _ (.head _)) (M I))<|aX I<|Q (fX (M I) (M I))<|bv 2 nX I<|dW<|bL cF vp I<|bz<|dM ?_;exact cm (K1 (aC.mk n.Tag n.L (IntKind.i64.wrap (n.R+(out.length:Int))) n.Col n.Value) h) (bb I)
    ·refine bk ?_;exact cm (K1 n h) (bb I)
  ·skip
   refine aY<|bv 1 oW I<|Q (bB cF I I mQ (.head _) (M I))<|Q (fh (M I) hI)<|bY h I (fun h=>?_) (fun h=>?_)
   ·refine aJ<|bv 1 oW I<|Q (bB cF I I mQ (.head _) (M I))<|aX I<|Q (fX (M I) (M I))<|bv 1 oW I<|bL cF vq I<|bz<|dM ?_;exact cm (ax (aC.mk e1.Tag (IntKind.i64.wrap (e1.L+(out.length:Int))) e1.R e1.Col e1.Value) h) (bb I)
   ·refine bk<|dM ?_;exact cm (ax e1 h) (bb I)

def VL root l{R}(h:mI root l=some R):cI aZ 214 [H br root,fm (ac) l] (H ac R):=by
 refine dm Tryz.func214 I<|aY<|AB (M I) I fun b=>aV bD cQ I fun b1=>bO<|aY<|cj false br 106<|Q (cg y6)<|bO<|aY<|Q (sO (r:=aP) (ys:=[mi,mi]) (xs:=[.const (.int .i64 (-1)),.const (.int .i64 (-1))]) FR cF I JE I I ⟨hI,hI,d⟩)<|aV (r:=Jw) (x:=(List.replicate 2 (0:Int))) JE (fun _=>HB (r:=aP) 2 (fun _=>I) _) I fun b2=>bL JE aj I<|bO<|aT<|aX I ?_;refine bW mX I<|Q (bC hI)<|bO<|ai<|aO (k:=10) I fun hN=>bp<|ie<|Eu<|HM 5 I<|ie<|ki<|rm<|rm ?_;refine ay (Dq (h2:=fun ls i out l1 c at1=>(l.drop i=ls)/\jA root ls i out at1=some R) (Of:=fun _ i out l1 c at1=>[K br 106 l1 c out,bx br 106 b root,bx ac 62 b1 tk,bx Jw 80 b2 at1]) (Gf:=fun _ i out l1 c at1=>[(2,tV (an b 0)),(4,tV (an b1 0)),(5,tO br l1 c out),(6,tV (an b2 0)),(10,fm (ac) l),(11,iK l),(12,bd (i:Int))]) (fun i out l1 c at1 h=>?_) (fun e tl ih i out l1 c at1 h=>?_) l 0 ([]:List aC) none 0 ([mi,mi]) ⟨I,h⟩) (bb I)
 ·obtain⟨A,h⟩:=h
  refine dh A I<|av<|aD<|cq h fun e1 q_e1 h=>cq h fun e2 q_e2 h=>?_
  refine ek 6 [tc (tV (an b2 ((0:Int).toNat*1))),tc (bd e1),tc (tV (an b2 ((1:Int).toNat*1))),tc (bd e2),tc (tV (an b 1)),tc (tR)] [false,false,false,false,false,true] [fun _=>[K br 106 l1 c out,bx br 106 b root,bx ac 62 b1 tk,bx Jw 80 b2 at1],fun sg=>[bx br 106 b ({root with L:=e1}:aC),K br 106 l1 c out,bx ac 62 b1 tk,bx Jw 80 b2 at1]] I mixed I I I I I
   ⟨⟨[⟨6,fun _=>tV (an b2 0),none⟩],_,0,0,I,⟨(fun _=>I),d⟩,I,I,I,I,I,fK (fun sg=>aa I (qv FR cF (.tail _ (.tail _ (.tail _ (.head _)))) (M I) hI q_e1))⟩,
   ⟨⟨[⟨26,fun _=>tV (an b2 ((0:Int).toNat*1)),some 0⟩],_,0,0,I,⟨(fun _=>I),d⟩,I,I,I,I,I,fK (fun sg=>aa I (GO cF I I (.tail _ (.tail _ (.tail _ (.head _)))) q_e1 (M I)))⟩,
   ⟨⟨[⟨6,fun _=>tV (an b2 0),none⟩],_,0,1,I,⟨(fun _=>I),d⟩,I,I,I,I,I,um (fun sg=>aa I (qv FR cF (.tail _ (.tail _ (.tail _ (.head _)))) (M I) hI q_e2)) (fK (fun sg=>aa I (qv FR cF (.tail _ (.tail _ (.tail _ (.head _)))) (M I) hI q_e2)))⟩,
   ⟨⟨[⟨28,fun _=>tV (an b2 ((1:Int).toNat*1)),some 2⟩],_,0,1,I,⟨(fun _=>I),d⟩,I,I,I,I,I,um (fun sg=>aa I (GO cF I I (.tail _ (.tail _ (.tail _ (.head _)))) q_e2 (M I))) (fK (fun sg=>aa I (GO cF I I (.tail _ (.tail _ (.tail _ (.head _)))) q_e2 (M I))))⟩,
   ⟨⟨[⟨2,fun _=>tV (an b 0),none⟩],_,0,0,I,⟨(fun _=>I),d⟩,I,I,I,I,I,fun _ sg _ _=>aa I (lv 1 oW I I I)⟩,
   ⟨⟨[⟨30,fun _=>tV (an b 1),some 4⟩,⟨27,fun _=>H aP e1,some 1⟩],_,I,⟨(fun _=>I),(fun _=>I),d⟩,I,I,I,fun sg=>bS I (EffOK.fr1 (dq cF I (uu vq) I (M I) (M I)))⟩,
   d⟩⟩⟩⟩⟩⟩ (fun sg=>?_)
  refine(show RG _ _ _ _ [_,_,_,_] _ from ?_);exact bv 2 nX I<|bL cF vp I<|bO<|aH I<|Q (bB (x:=(aC.mk ({root with L:=e1}:aC).Tag ({root with L:=e1}:aC).L e2 ({root with L:=e1}:aC).Col ({root with L:=e1}:aC).Value)) eJ I I cD (.head _) (M I))<|Q (a8 (r:=br) (ys:=[(aC.mk ({root with L:=e1}:aC).Tag ({root with L:=e1}:aC).L e2 ({root with L:=e1}:aC).Col ({root with L:=e1}:aC).Value)]) (xs:=[.tmp 33]) mz eJ I I I I I ⟨(M I),d⟩)<|dW<|cq h fun l2 q_l2 h=>me eJ I I I I mz I I (M I) (M I) q_l2 fun l3 c1=>Q (bU (y:=(⟨l2⟩:aW)) bD BN cQ (⟨_,_,_,_,_,I,QR,I,(kB (M I)),I⟩))<|ib<|bL bD aj I<|aK 4 I<|cw<|aM<|aM<|aM<|so h▸sm I bD I I I
 ·obtain⟨A,h⟩:=h
  refine dg A I<|aD<|ai<|aH I<|dE mX bD I (df A)<|aV bD cQ I fun b3=>gE I<|bL bD aj I<|aK 8 I<|bO<|aD ?_;refine aJ<|aX I<|cC bD I<|cq h fun r q_r h=>Dm [K br 106 l1 c out] _ I aaM (Y5 l1 c _ _ q_r) ⟨(tQ (M I)),(M I),d⟩ I fun i1=>?_;refine(show RG _ _ _ _ [_,_,_,_] ((19,tO br (i1.h 0).1 (i1.h 0).2 r)::_)from ?_);refine bj I<|aJ<|aX I<|aX I<|Q (fN mz (kB (M I)))<|Q (fv (M I) hI)<|cq h fun e3 q_e3 h=>Q (qv FR cF (.tail _ (.tail _ (.tail _ (.head _)))) (M I) (M I) q_e3)<|kh<|cq h fun ar q_ar h=>RR cF I q_e3 (so q_ar) (M I) (M I)<|bz<|cR A hN I<|kj<|kj<|kj ?_;exact aS (ay (ih (i+1) r (i1.h 0).1 (i1.h 0).2 ar ⟨cM A,h⟩) (bb I))

def Kf root l{R}(h:sZ root l=some R):cI aZ 175 [H br root,fm (ac) l] (tT [H ac R.1,bd R.2]):=by
 refine dm Tryz.func175 I<|aY<|cK I<|aV bD cQ I fun b=>bG<|bO<|aT<|aX I<|bW mX I<|Q (bC hI)<|bO<|ai<|aO (k:=11) I fun hN=>bp ?_;refine ay (j8 (h2:=fun ls i x=>(l.drop i=ls)/\nY root l ls x=some R) (Of:=fun _ i x=>[bx ac 62 b x]) (Gf:=fun _ i x=>[(1,fm (ac) l),(2,bt br root),(4,tV (an b 0)),(11,fm (ac) l),(12,iK l),(13,bd (i:Int))]) (fun i x h=>?_) (fun e tl ih i x h=>?_) l 0 tk ⟨I,h⟩) (bb I)
 ·obtain⟨A,h⟩:=h
  refine dh A I<|av<|aY<|cC eJ I<|aX I<|eo h aaV (VL _ _) (dd I) fun r h=>aV bD cQ I fun b1=>bL bD aj I<|aK 9 I<|bO ?_;refine aT<|cC bD I<|eo h WA (Ka _) (dd I) fun r1 h=>bj I<|aH I<|gW I<|bY h I (fun h=>?_) (fun h=>?_)
  ·exact aY<|Q (bU bD BN cQ I)<|aX I<|bL bD aj I<|be I<|af<|cn 4 I<|so h▸lA I I ⟨di bD I I I,bE I,d⟩
  ·exact gC<|aY<|cC bD I<|bL bD aj I<|dJ<|cn 4 I<|so h▸lA I I ⟨di bD I I I,bE I,d⟩
 ·obtain⟨A,h⟩:=h
  refine dg A I<|aD<|ai<|aY<|dE mX bD I (df A)<|aV bD cQ I fun b2=>bL bD aj I<|aK 7 I<|bO<|aY<|cC bD I ?_;refine eo h WA (Ka _) (dd I) fun r2 h=>bj I<|aH I<|gW I<|bY h I (fun h=>?_) (fun h=>?_)
  ·exact aY<|Q (bU bD BN cQ I)<|aX I<|bL bD aj I<|be I<|bZ<|af<|bZ<|cn 4 I<|so h▸lA I I ⟨di bD I I I,bE I,d⟩
  ·refine bk<|cR A hN I ?_;exact aS (ay (ih (i+1) x ⟨cM A,h⟩) (bb I))

def PJ n{R}(h:vg n=some R):cI aZ 142 [H br n] (tT [H ac R.1,bd R.2]):=by
 exact dm Tryz.func142 I<|aY<|cK I<|aV bD cQ I fun b=>bG<|bO<|aY<|cC eJ I<|eo h TZ (Kf _ _) ⟨(M I),Rn,d⟩ fun r h=>cY I I<|cY I I<|bL bD aj I<|aK 2 I<|be I<|so h▸lA I I ⟨di bD I I I,bE I,d⟩

def VY n{R}(h:cb n=some R):cI aZ 176 [H br n] (tT [H ac R.1,bd R.2]):=by
 exact dm Tryz.func176 I<|aY<|cK I<|aV bD cQ I fun b=>bG<|bO<|aY<|cC eJ I<|eo h Xp (PJ _) (dd I) fun r h=>cY I I<|cY I I<|bL bD aj I<|aK 2 I<|be I<|so h▸lA I I ⟨di bD I I I,bE I,d⟩

set_option maxHeartbeats 4000000 in
def Za(b:Nat)(ix:OI) s group{R}(h:gD s group=some R):ea aZ 177 [im group,bt (rT (tV (an b 0))) ()] (dx b s ix) (fun _:OI=>pE R) (fun _=>(dx b s ix)):=by
 refine ea.of Tryz.func177 I I I fun w0 S0=>?_;refine(show CG _ _ _ [bx (rH aU (z10 ix s)) 127 b s,K aP 3 (ix.h 0).1 (ix.h 0).2 s.out.Tables,K aw 71 (ix.h 1).1 (ix.h 1).2 s.out.Joins,K aP 3 (ix.h 2).1 (ix.h 2).2 s.out.Keys,K aN 73 (ix.h 3).1 (ix.h 3).2 s.out.Aggs,K ac 62 (ix.h 4).1 (ix.h 4).2 s.out.Items,K aP 3 (ix.h 5).1 (ix.h 5).2 s.kinds,K aP 3 (ix.h 6).1 (ix.h 6).2 s.groups,ci mU ez (ix.h 7).2 none (ix.oss 0) s.called,ci ff ez (ix.h 8).2 none (ix.oss 1) s.alone,eQ (fun y:Int=>bd y) lg (ix.h 9).2 s.behind] _ from ?_);refine aY<|xa aP<|bO<|aT<|aX I<|bY h I (fun h=>?_) (fun h=>?_)
 ·exact aY<|Q (vy KU (M I))<|Q (bl (M I))<|bv 23 Ap I<|Q (cP fL I (.head _) (.tail _ (.tail _ (.tail _ (.tail _ (.tail _ (.tail _ (.tail _ (.head _)))))))) (M I))<|be I<|af<|nC 3 I<|so h▸er I oF I I (fun _ _ h=>h)
 ·exact gC<|aY<|Q (vy KU (M I))<|Q (bl (M I))<|bv 22 wA I<|Q (cP fL I (.head _) (.tail _ (.tail _ (.tail _ (.tail _ (.tail _ (.tail _ (.head _))))))) (M I))<|be I<|nC 3 I<|so h▸er I oF I I (fun _ _ h=>h)

set_option maxHeartbeats 4000000 in
def Tz(b:Nat)(ix:OI) s n{R}(h:kU s n=some R):ea aZ 141 [tV (an b 0),H fI n] (dx b s ix) (fun _:OI=>tT [bd R.1,bd R.2]) (fun _=>(dx b s ix)):=by
 refine ea.of Tryz.func141 I I I fun w0 S0=>?_;refine(show CG _ _ _ [bx (rH aU (z10 ix s)) 127 b s,K aP 3 (ix.h 0).1 (ix.h 0).2 s.out.Tables,K aw 71 (ix.h 1).1 (ix.h 1).2 s.out.Joins,K aP 3 (ix.h 2).1 (ix.h 2).2 s.out.Keys,K aN 73 (ix.h 3).1 (ix.h 3).2 s.out.Aggs,K ac 62 (ix.h 4).1 (ix.h 4).2 s.out.Items,K aP 3 (ix.h 5).1 (ix.h 5).2 s.kinds,K aP 3 (ix.h 6).1 (ix.h 6).2 s.groups,ci mU ez (ix.h 7).2 none (ix.oss 0) s.called,ci ff ez (ix.h 8).2 none (ix.oss 1) s.alone,eQ (fun y:Int=>bd y) lg (ix.h 9).2 s.behind] _ from ?_);refine aY<|cK I<|bG<|bG<|bO<|aT<|ba J0 xu jG I<|Q (wk (M I) hS)<|bY h I (fun h=>?_) (fun h=>?_)
 ·refine aD ?_
  refine eI (ts:=[_,_,_,_,_,_,_,_,_,_,_]) mixed I I
   ⟨f8 I I,
   ⟨ga 13 0 I I (bl (M I)),
   ⟨ga 14 1 I I (lv 21 PB I I I),
   ⟨ga 15 2 I I (qt WW I (.head _) (M I)),
   ⟨ug 3 I I (qN xM I I),
   ⟨fg 16 3 17 4 I I I (Ly (γ:=fun y:Int=>H aP y) (z:=(0:Int)) Tryz.underlying125 Z2 zv3 (fun S=>⟨_,I,(fun _=>I) S⟩) (.tail _ (.tail _ (.tail _ (.tail _ (.tail _ (.tail _ (.tail _ (.tail _ (.tail _ (.tail _ (.head _))))))))))) (M I) (S5 (p:=(n.Table,n.Name)) I (fun _ _ h=>Z4 h) (M I))),
   ⟨ga 18 5 I I (gH I),
   ⟨ga 12 6 I I (vS I I),
   ⟨ga 12 6 I I (vS I I),
   ⟨ga 19 7 I I (AW I),
   ⟨ga 20 8 I I (AW I),
   d⟩⟩⟩⟩⟩⟩⟩⟩⟩⟩⟩ ?_
  refine av<|aT<|aX I<|Q (fV (M I))<|bY h I (fun h=>?_) (fun h=>?_)
  ·exact aY<|bG<|dJ<|af<|af<|so h▸c0 (ts:=[bd 0,bd 222]) (rvs:=[.tmp 4,.tmp 5]) I I ⟨bE I,bE I,d⟩ oF I I
  ·exact gC<|aH I<|gE I<|dJ<|af<|so h▸c0 (ts:=[bd ((ij s.behind (n.Table,n.Name)).getD (0:Int)),bd 0]) (rvs:=[.tmp 4,.tmp 5]) I I ⟨bE I,bE I,d⟩ oF I I
 ·refine gC<|aD<|aD ?_
  refine eI (ts:=[_,_,_,_,_,_,_,_]) mixed I I
   ⟨f8 I I,
   ⟨ga 24 0 I I (bl (M I)),
   ⟨ga 25 1 I I (lv 20 J8 I I I),
   ⟨ga 26 2 I I (qt KT I (.head _) (M I)),
   ⟨ug 3 I I (oJ JZ xr I I),
   ⟨jX 4 jG I I,
   ⟨fg 27 3 29 5 I I I (Nu Tryz.underlying124 (CY gx) Zw (.tail _ (.tail _ (.tail _ (.tail _ (.tail _ (.tail _ (.tail _ (.tail _ (.tail _ (.head _)))))))))) (M I) (S4 (M I))),
   ⟨ga 30 6 I I (AW I),
   d⟩⟩⟩⟩⟩⟩⟩⟩ ?_
  refine av<|aH I<|bW fH I<|bO<|ai<|aY<|dw I<|bj I<|mA h I (fun h=>?_) (fun h=>?_)
  ·exact aY<|bG<|dJ<|bZ<|so h▸c0 (ts:=[bd 0,bd 222]) (rvs:=[.tmp 4,.tmp 5]) I I ⟨bE I,bE I,d⟩ oF I I
  ·refine aY<|dw I<|bj I<|mA h I (fun h=>?_) (fun h=>?_)
   ·exact aH I<|cq h fun e q_e h=>Q (ev fH cF I (M I) hI q_e)<|cC cF I<|gE I<|dJ<|bZ<|so h▸c0 (ts:=[bd e,bd 0]) (rvs:=[.tmp 4,.tmp 5]) I I ⟨bE I,bE I,d⟩ oF I I
   ·exact bk<|bq<|av<|aY<|bG<|dJ<|so h▸c0 (ts:=[bd 0,bd 223]) (rvs:=[.tmp 4,.tmp 5]) I I ⟨bE I,bE I,d⟩ oF I I

end Go.Proofs.YthbdkceckjihgaaGreatDoor

