/- du of this claim: P18. -/
import Derived.Test.YthbdkceckjihgaaGreatDoorBbT
import Derived.Test.YthbdkceckjihgaaGreatDoorBbP17
set_option linter.all false
namespace Go.Proofs.YthbdkceckjihgaaGreatDoor
open Go
set_option maxRecDepth 100000

def Vp c s tables{R}(h:tS c s tables=some R):jE aZ 49 [H bK c,H bh s,pE tables] false rS 9 R:=by
 refine jE.of Tryz.func49 I I I fun w0 S0=>aY<|cK I<|cK I<|cj false rS 9<|Q (cg y6)<|bO<|aY<|cj false rS 9<|Q (cg y6)<|bO ?_;refine vj (h2:=fun out l c1=>o5 s out=some R) (Of:=fun out l c1=>[gb rS 9 l c1 out]) (Gf:=fun out l c1=>[(4,bt bh s),(7,sn l c1 out)]) (fun out l c1 h=>?_) (fun ax=>?_)
 ·skip
  refine aT<|ba qe jb AL I<|bW rs I<|Q (bC hI)<|bO<|ai<|aO (k:=43) I fun hN=>bp ?_;refine ay (jF (h2:=fun ls i out1 l1 c2=>(s.Items.drop i=ls)/\kC ls out1=some R) (Of:=fun _ i out1 l1 c2=>[gb rS 9 l1 c2 out1]) (Gf:=fun _ i out1 l1 c2=>[(7,sn l1 c2 out1),(43,fm (d9) s.Items),(44,iK s.Items),(45,bd (i:Int))]) (fun i out1 l1 c2 h=>?_) (fun e tl ih i out1 l1 c2 h=>?_) s.Items 0 out l c1 ⟨I,h⟩) (bb I)
  ·obtain⟨A,h⟩:=h
   exact dh A I<|av<|aH I<|be I<|so h▸m6 I I
  ·obtain⟨A,h⟩:=h
   refine dg A I<|aD<|ai<|aY<|dE rs o3 I (df A)<|aV o3 th I fun b=>bL o3 aj I<|aK 13 I<|bO<|aY<|oK J1 Ao I ?_;refine cC jG I<|bj I ?_;refine ig (h2:=fun own=>rC (kC tl) out1 own=some R) (Of:=fun own=>[gb rS 9 l1 c2 out1]) (Gf:=fun own=>[(7,sn l1 c2 out1),(14,H rS own),(43,fm (d9) s.Items),(44,iK s.Items),(45,bd (i:Int))]) (fun own h=>?_) (fun K1=>?_)
   ·skip
    refine aJ<|aX I<|aX I<|Q (a8 (r:=rS) (ys:=[own]) (xs:=[.tmp 71]) qK jG I I I I I ⟨(M I),d⟩)<|cq h fun out2 q_out2 h=>d8 jG I I I I qK I I (M I) (M I) q_out2 fun l2 c3=>gE I<|bz<|cR A hN I ?_;exact aS (ay (ih (i+1) out2 l2 c3 ⟨cM A,h⟩) (bb I))
   ·skip
    refine aY<|oK rU lN I<|ba j5 eN sw I<|oK rU lN I<|ba j5 eN sw I<|bW oZ I<|Q (fv (M I) hI)<|cq h fun e1 q_e1 h=>dE oZ lS I q_e1<|aV lS vY I fun b1=>bL lS aj I<|aK 15 I<|bO<|aH I<|Q (fW (M I) hS)<|aX I<|ap I (bR mh iA I I) ?_;refine ap I (bM cF I I)<|ap I (mV I)<|eV I<|bY h I (fun h=>?_) (fun h=>?_)
    ·refine aJ<|ba qF nj jG I<|gE I<|bz ?_;exact cm (K1 e1.Name h) (bb I)
    ·refine bk ?_;exact cm (K1 e.As h) (bb I)
 ·skip
  refine aY<|ba BQ po yG I<|bY h I (fun h=>?_) (fun h=>?_)
  ·refine aH I<|bW fH I<|Q (bC hI)<|bO<|ai<|aO (k:=18) I fun hN1=>bp<|ie<|yA ?_;refine ay (jF (h2:=fun ls1 i1 out3 l3 c4=>(tables.drop i1=ls1)/\lV c s ls1 out3=some R) (Of:=fun _ i1 out3 l3 c4=>[gb rS 9 l3 c4 out3]) (Gf:=fun _ i1 out3 l3 c4=>[(3,bt bK c),(4,bt bh s),(7,sn l3 c4 out3),(18,pE tables),(19,iK tables),(20,bd (i1:Int))]) (fun i1 out3 l3 c4 h=>?_) (fun e2 tl1 ih1 i1 out3 l3 c4 h=>?_) tables 0 ([]:List cS) none 0 ⟨I,h⟩) (bb I)
   ·obtain⟨hx1,h⟩:=h
    refine dh hx1 I ?_;exact cm (ax out3 l3 c4 h) (bb I)
   ·obtain⟨hx1,h⟩:=h
    refine dg hx1 I<|aD<|ai<|aY<|dE fH cF I (df hx1)<|bj I<|aY<|ba nk eK vV I<|aX I ?_;refine cq h fun e3 q_e3 h=>uC sF kM I q_e3<|ba kR fY q9 I<|bW p8 I<|Q (bC hI)<|bO<|ai<|aO (k:=29) I fun hN2=>bp ?_;refine ay (jF (h2:=fun ls2 i2 out4 l4 c5=>(e3.Columns.drop i2=ls2)/\m9 (lV c s tl1) ls2 out4=some R) (Of:=fun _ i2 out4 l4 c5=>[gb rS 9 l4 c5 out4]) (Gf:=fun _ i2 out4 l4 c5=>[(3,bt bK c),(4,bt bh s),(7,sn l4 c5 out4),(18,pE tables),(19,iK tables),(20,bd (i1:Int)),(29,fm (cZ) e3.Columns),(30,iK e3.Columns),(31,bd (i2:Int))]) (fun i2 out4 l4 c5 h=>?_) (fun e4 tl2 ih2 i2 out4 l4 c5 h=>?_) e3.Columns 0 out3 l3 c4 ⟨I,h⟩) (bb I)
    ·obtain⟨hx2,h⟩:=h
     refine dh hx2 I<|cR hx1 hN1 I ?_;exact aS (ay (ih1 (i1+1) out4 l4 c5 ⟨cM hx1,h⟩) (bb I))
    ·obtain⟨hx2,h⟩:=h
     refine dg hx2 I<|aD<|ai<|aY<|dE p8 kl I (df hx2)<|aV kl oq I fun b2=>bL kl aj I<|aK 11 I<|bO<|aJ<|aX I<|oK tA lF I ?_;refine cC jG I<|Q (a8 (r:=rS) (ys:=[e4.Name]) (xs:=[.tmp 37]) qK jG I I I I I ⟨(M I),d⟩)<|cq h fun out5 q_out5 h=>d8 jG I I I I qK I I (M I) (M I) q_out5 fun l5 c6=>gE I<|bz<|cR hx2 hN2 I ?_;exact aS (ay (ih2 (i2+1) out5 l5 c6 ⟨cM hx2,h⟩) (bb I))
  ·refine bk<|dM<|aM ?_;exact cm (ax ([]:List cS) none 0 h) (bb I)
def YS c s tables{R}(h:tS c s tables=some R):cI aZ 49 [H bK c,H bh s,pE tables] (fm (rS) R):=(Vp _ _ _ h).spec

def YR a1 b{R}(h:rA a1 b=some R):cI aZ 50 [pE a1,pE b] (tT [pE R.1,im R.2]):=by
 refine dm Tryz.func50 I<|aY<|xa aP<|bw<|bO<|aT<|aX I<|bW fH I<|aX I<|bW fH I<|Q (dZ (M I) (M I))<|bY h I (fun h=>?_) (fun h=>?_)
 ·exact aY<|xa aP<|bw<|cw<|af<|so h▸cX I I I
 ·refine gC<|aY<|cj false aP 3<|Q (cg y6)<|bO<|aT<|aX I<|bW fH I<|Q (bC hI)<|bO<|ai<|aO (k:=14) I fun hN=>bp ?_;refine ay (jF (h2:=fun ls i out l c=>(a1.drop i=ls)/\jU b ls i out=some R) (Of:=fun _ i out l c=>[gb aP 3 l c out]) (Gf:=fun _ i out l c=>[(0,pE a1),(1,pE b),(6,sn l c out),(15,iK a1),(16,bd (i:Int))]) (fun i out l c h=>?_) (fun e tl ih i out l c h=>?_) a1 0 w9 none 0 ⟨I,h⟩) (bb I)
  ·obtain⟨A,h⟩:=h
   refine dh A I<|av<|aH I<|gE I<|bw<|cw<|tg<|jj 6 I<|jj 47 I ?_;exact jj 4 I<|nC 4 I<|aM<|so h▸cX I I I
  ·obtain⟨A,h⟩:=h
   refine dg A I<|aD<|ai<|aH I<|bj I<|aH I<|aX I<|dE fH cF I (df A) ?_;refine bj I ?_;refine ig (h2:=fun k=>qC b (jU b tl) i out k=some R) (Of:=fun k=>[gb aP 3 l c out]) (Gf:=fun k=>[(0,pE a1),(1,pE b),(6,sn l c out),(7,bd (i:Int)),(8,bd k),(15,iK a1),(16,bd (i:Int))]) (fun k h=>?_) (fun ax=>?_)
   ·skip
    refine aT<|aX I<|aX I<|cq h fun e1 q_e1 h=>dE fH cF I q_e1<|gW I<|aX I<|ap I (da I)<|ap I (da I)<|ap I (fun D=>ev fH cF I (bF I D) (bF I D) q_e1)<|ap I (bM cF I I)<|ap I (da I)<|ap I (fun D=>dZ (bF I D) (bF I D))<|eV I<|bY h I (fun h=>?_) (fun h=>?_)
    ·exact aY<|xa aP<|bw<|cw<|af<|bZ<|af<|bZ<|aM<|so h▸cX I I I
    ·refine gC<|aJ<|aX I<|aX I<|Q (a8 (r:=aP) (ys:=[k]) (xs:=[.tmp 43]) fH cF I I I I I ⟨(M I),d⟩)<|cq h fun out1 q_out1 h=>d8 cF I I I I fH I I (M I) (M I) q_out1 fun l1 c1=>gE I<|bz<|cR A hN I ?_;exact aS (ay (ih (i+1) out1 l1 c1 ⟨cM A,h⟩) (bb I))
   ·skip
    refine aH I<|dw I<|bY h I (fun h=>?_) (fun h=>?_)
    ·refine aJ<|aX I<|aX I<|cq h fun e2 q_e2 h=>dE fH cF I q_e2<|gE I<|bz ?_;exact cm (ax e2 h) (bb I)
    ·refine bk ?_;exact cm (ax e h) (bb I)

def YQ k names{R}(h:Ae k names=some R):cI aZ 51 [H j0 k,fm (rS) names] (tT [bd R.1,bd R.2]):=by
 refine dm Tryz.func51 I<|aY<|cK I<|bG<|bG<|bO<|aT<|ba yh rQ jG I<|Q (fW (M I) hS)<|bY h I (fun h=>?_) (fun h=>?_)
 ·refine aT<|ba vH pr cF I<|Q (eP (M I) hI)<|aX I<|au I (bR vH pr I I)<|au I (bM cF I I)<|au I (da I)<|au I (kA qK I)<|au I (fun D=>fa (bF I D) (bF I D))<|eu I<|bY h I (fun h=>?_) (fun h=>?_)
  ·exact aY<|bG<|dJ<|af<|af<|so h▸cX I I I
  ·exact gC<|aY<|ba vH pr cF I<|Q (fv (M I) hI)<|gE I<|dJ<|af<|so h▸cX I I I
 ·refine gC<|aY<|bG<|bG<|bO<|aT<|aX I<|bW qK I<|Q (bC hI)<|bO<|ai<|aO (k:=26) I fun hN=>bp ?_;refine ay (uf (h2:=fun ls i found many=>(names.drop i=ls)/\fc k ls i found many=some R) (Of:=fun _ i found many=>[]) (Gf:=fun _ i found many=>[(2,bt j0 k),(6,bd found),(7,bd many),(26,fm (rS) names),(27,iK names),(28,bd (i:Int))]) (fun i found many h=>?_) (fun e tl ih i found many h=>?_) names 0 (0:Int) (0:Int) ⟨I,h⟩) (bb I)
  ·obtain⟨A,h⟩:=h
   refine dh A I<|av<|aT<|aX I<|bO<|ai<|aY<|dw I<|gE I ?_;refine bY h I (fun h=>?_) (fun h=>?_)
   ·exact aY<|bG<|dJ<|bZ<|so h▸cX I I I
   ·refine aY<|dw I<|bj I<|mA h I (fun h=>?_) (fun h=>?_)
    ·exact aH I<|gE I<|dJ<|bZ<|so h▸cX I I I
    ·exact bk<|bq<|av<|aY<|bG<|dJ<|so h▸cX I I I
  ·obtain⟨A,h⟩:=h
   refine dg A I<|aD<|ai<|aH I<|dE qK jG I (df A)<|gE I<|bj I<|aH I ?_;refine ba yh rQ jG I<|Q (fW (M I) (M I))<|bY h I (fun h=>?_) (fun h=>?_)
   ·refine aH I<|bj I<|aJ<|aX I<|Q (fX (M I) hI)<|gE I<|bz<|cR A hN I ?_;exact aS (ay (ih (i+1) (i:Int) (IntKind.i64.wrap (many+(1:Int))) ⟨cM A,h⟩) (bb I))
   ·refine bk<|cR A hN I ?_;exact aS (ay (ih (i+1) found many ⟨cM A,h⟩) (bb I))

def TA c q{R}(h:vu c q=some R):cI aZ 13 [H bK c,H cv q] (tT [H bQ R.1,bd R.2.1,bd R.2.2]):=by
 refine dm Tryz.func13 I<|aY<|cK I<|cK I<|aV jS lh I fun b=>bG<|bG<|bO<|aT<|cC qa I<|eo h ac7 (Y4 _) (dd I) fun r h=>Q (fV (M I))<|bY h I (fun h=>?_) (fun h=>?_)
 ·exact aY<|Q (bU jS Fj lh I)<|bL jS aj I<|bG<|dJ<|af<|cn 4 I<|so h▸lA I I ⟨di jS I I I,bE I,bE I,d⟩
 ·refine gC<|aT<|cC Bx I<|eo h acP (YU _) (dd I) fun r1 h=>Q (fV (M I))<|bY h I (fun h=>?_) (fun h=>?_)
  ·exact aY<|Q (bU jS Fj lh I)<|bL jS aj I<|bG<|dJ<|af<|cn 4 I<|so h▸lA I I ⟨di jS I I I,bE I,bE I,d⟩
  ·refine gC<|aY<|ba Eh sS cF I<|cj true bm 66<|cj true gY 77<|Q (bU (y:=fz (⟨[],[],[],[],q.Limit⟩:bu) UK UJ) jS Fj Cp (⟨_,_,_,_,_,I,Gk,I,(M I),I⟩))<|cj true bm 66<|cj true gY 77<|aV (r:=dF) (x:=fz F5 UK UJ) jS Cp I fun b1=>p5<|dW<|p5<|dW<|iR (r' :=dF) jS I (gk I) I (M I) (M I)<|kh<|tH<|kh<|tH<|bO<|aD ?_;refine aY<|ba uA nU E8 I<|bW wL I<|Q (bC hI)<|bO<|ai<|aO (k:=32) I fun hN=>bp<|ie<|ki<|ki<|rm ?_;refine ay (z2 (h2:=fun ls i x out l c1 l1 c2=>(q.Selects.drop i=ls)/\iC c q ls i x out=some R) (Of:=fun _ i x out l c1 l1 c2=>[bx bQ 38 b x,bx dF 38 b1 (fz out (J l c1 out.Selects.length) (J l1 c2 out.Order.length)),K bm 66 l c1 out.Selects,K gY 77 l1 c2 out.Order]) (Gf:=fun _ i x out l c1 l1 c2=>[(2,bt bK c),(3,bt cv q),(4,tV (an b 0)),(7,tV (an b1 0)),(32,fm (bh) q.Selects),(33,iK q.Selects),(34,bd (i:Int))]) (fun i x out l c1 l1 c2 h=>?_) (fun e tl ih i x out l c1 l1 c2 h=>?_) q.Selects 0 F5 ({({(⟨[],[],[],[],q.Limit⟩:bu)with Selects:=([]:List aL)}:bu)with Order:=([]:List vR)}:bu) none 0 none 0 ⟨I,h⟩) (bb I)
   ·obtain⟨A,h⟩:=h
    refine dh A I<|av<|aT<|ba yi pp H0 I<|bW AH I<|Q (bC hI)<|bO<|ai<|aO (k:=109) I fun hN1=>?_;refine bp ?_;refine ay (z2 (h2:=fun ls1 i1 x1 out1 l2 c3 l3 c4=>(q.Keys.drop i1=ls1)/\qi ls1 x1 out1=some R) (Of:=fun _ i1 x1 out1 l2 c3 l3 c4=>[bx bQ 38 b x1,bx dF 38 b1 (fz out1 (J l2 c3 out1.Selects.length) (J l3 c4 out1.Order.length)),K bm 66 l2 c3 out1.Selects,K gY 77 l3 c4 out1.Order]) (Gf:=fun _ i1 x1 out1 l2 c3 l3 c4=>[(4,tV (an b 0)),(7,tV (an b1 0)),(109,fm (j0) q.Keys),(110,iK q.Keys),(111,bd (i1:Int))]) (fun i1 x1 out1 l2 c3 l3 c4 h=>?_) (fun e1 tl1 ih1 i1 x1 out1 l2 c3 l3 c4 h=>?_) q.Keys 0 x out l c1 l1 c2 ⟨I,h⟩) (bb I)
    ·obtain⟨hx1,h⟩:=h
     refine dh hx1 I<|av<|aY<|ib<|kh<|Q (qS (q:=bQ) (y:=out1) jS I I I I (.tail _ (.tail _ (.tail _ (.head _)))) (fun _ _ _ ho h=>Dd (rN ho (.tail _ (.head _))) (rN ho (.head _)) h) (M I))<|ib<|bL jS aj I<|bG<|bG<|bO ?_;exact wY<|cn 4 I<|aM<|aM<|aM<|so h▸lA I I ⟨di jS I I I,bE I,bE I,d⟩
    ·obtain⟨hx1,h⟩:=h
     refine dg hx1 I<|aD<|ai<|aY<|dE AH xN I (df hx1)<|aV xN F2 I fun b2=>bL xN aj I<|aK 17 I<|bO<|aY<|cC xN I ?_;refine bv 1 sX I<|Q (bB (r:=dF) (x:=fz out1 (J l2 c3 out1.Selects.length) (J l3 c4 out1.Order.length)) DB I I Ha (.tail _ (.head _)) (M I))<|eo h acJ (YQ _ _) (dd I) fun r2 h=>aX I<|cY I I<|cY I I<|gE I<|bj I<|aT<|aX I<|gW I<|bY h I (fun h=>?_) (fun h=>?_)
     ·exact aY<|Q (bU jS Fj lh I)<|aX I<|bL jS aj I<|bG<|be I<|af<|bZ<|af<|bZ<|cn 4 I<|aM<|aM<|aM<|so h▸lA I I ⟨di jS I I I,bE I,bE I,d⟩
     ·refine gC<|aJ<|bv 3 vI I<|Q (pO Ge G8 (.tail _ (.head _)) (.tail _ (.tail _ (.tail _ (.head _)))) I (M I))<|aX I<|ba Ti L0 yG I<|Q (bU (y:=(⟨r2.1,e1.Desc⟩:vR)) Ct Z7 R8 (⟨_,_,_,_,_,I,Lc,I,(M I),⟨_,_,_,_,_,I,Lb,I,(M I),I⟩⟩))<|Q (a8 (r:=gY) (ys:=[(⟨r2.1,e1.Desc⟩:vR)]) (xs:=[.tmp 131]) Cg Ct I I I I I ⟨(M I),d⟩)<|kh<|cq h fun l4 q_l4 h=>me Ct I I I I Cg I I (M I) (M I) q_l4 fun l5 c5=>bv 3 vI I<|ib<|iR Ge I (wN out1 _ _ _) I (M I) (Pw (tQ (M I)))<|bz<|cR hx1 hN1 I<|dM ?_;refine kj<|gu<|kj ?_;exact aS (ay (ih1 (i1+1) x1 ({out1 with Order:=l4}:bu) l2 c3 l5 c5 ⟨cM hx1,h⟩) (bb I))
   ·obtain⟨A,h⟩:=h
    refine dg A I<|aD<|ai<|aH I<|dE wL qO I (df A)<|aV qO w8 I fun b3=>gE I<|bL qO aj I<|aK 9 I<|bO<|aD ?_;refine aJ<|cC qa I<|Q (bU (r:=rH bA [(1,.slice none 0 0),(2,.slice none 0 0),(3,.slice none 0 0),(8,.slice none 0 0),(9,.slice none 0 0),(10,.slice none 0 0)]) (y:=(⟨c,[],Sc⟩:aA)) ZT aae (zH Qr ⟨I,I,I,I,I,I,d⟩) (⟨_,_,_,_,_,I,IE K7 I I,I,(M I),I⟩))<|AB (M I) I fun b4=>cj true bg 48<|cj true aP 3<|cj true aw 71<|cj true aP 3<|cj true aN 73<|cj true ac 62 ?_;refine(show RG _ _ _ _ [_,_,_,_,_,_,_,_,_,_,_] _ from ?_);refine bj I<|aH I<|cC qO I<|cq h fun r3 q_r3 h=>jl (EffOK.fr1 (EffOK.fr2 (EffOK.fr3 (EffOK.fr4 (EffOK.fr5 (EffOK.fr6 (d7 (xs:=[.tmp 43,.tmp 44]) (ts:=[tV (an b4 0),H bh e]) (kE b4 (⟨c,[],Sc⟩:aA) (FE [E2,E2,E2,E2,E2,E2])) _ I acO (aat b4 (FE [E2,E2,E2,E2,E2,E2]) (⟨c,[],Sc⟩:aA) _ q_r3) ⟨(M I),(M I),d⟩ (fun _=>I)))))))) I fun i2=>?_;refine(show RG _ _ _ _ [_,_,_,_,_,_,_,_,_,_,_] ((45,tT [bd r3.1,bd r3.2.1])::_)from ?_);refine aX I<|cY I I<|cY I I<|gE I<|bj I ?_;refine Cb (h2:=fun at1 e2 ob l6 c6 l7 c7 l8 c8 l9 c9 l10 c10 l11 c11=>mN c (iC c q tl) i e x out at1 e2 ob=some R) (Of:=fun at1 e2 ob l6 c6 l7 c7 l8 c8 l9 c9 l10 c10 l11 c11=>[bx bQ 38 b x,bx dF 38 b1 (fz out (J l c1 out.Selects.length) (J l1 c2 out.Order.length)),K bm 66 l c1 out.Selects,K gY 77 l1 c2 out.Order,bx (rH bA [(1,J l6 c6 ob.sources.length),(2,J l7 c7 ob.out.Tables.length),(3,J l8 c8 ob.out.Joins.length),(8,J l9 c9 ob.out.Keys.length),(9,J l10 c10 ob.out.Aggs.length),(10,J l11 c11 ob.out.Items.length)]) 137 b4 ob,K bg 48 l6 c6 ob.sources,K aP 3 l7 c7 ob.out.Tables,K aw 71 l8 c8 ob.out.Joins,K aP 3 l9 c9 ob.out.Keys,K aN 73 l10 c10 ob.out.Aggs,K ac 62 l11 c11 ob.out.Items]) (Gf:=fun at1 e2 ob l6 c6 l7 c7 l8 c8 l9 c9 l10 c10 l11 c11=>[(2,bt bK c),(3,bt cv q),(4,tV (an b 0)),(7,tV (an b1 0)),(8,bd (i:Int)),(9,bt bh e),(10,tV (an b4 0)),(11,bd at1),(12,bd e2),(32,fm (bh) q.Selects),(33,iK q.Selects),(34,bd (i:Int))]) (fun at1 e2 ob l6 c6 l7 c7 l8 c8 l9 c9 l10 c10 l11 c11 h=>?_) (fun ax=>?_)
    ·skip
     refine aT<|aX I<|gW I<|bY h I (fun h=>?_) (fun h=>?_)
     ·refine aY<|Q (bU jS Fj lh I)<|aX I<|Q (JN hI (M I))<|aX I<|Q (fX (M I) (M I))<|aX I<|bL jS aj I<|gE I<|be I<|af<|bZ<|af<|bZ<|cn 4 I<|aM<|aM<|aM ?_;exact aM<|aM<|aM<|aM<|aM<|aM<|aM<|so h▸lA I I ⟨di jS I I I,bE I,bE I,d⟩
     ·refine gC<|aD<|cq h fun r4 q_r4 h=>?_
      refine eI (ts:=[_,_,_,_,_,_,_]) mixed I I
       ⟨ug 2 I I (qN qa I I),
       ⟨f8 I I,
       ⟨ga 65 1 I I (bl (M I)),
       ⟨ga 66 2 I I (lv 2 eW I I I),
       ⟨ga 67 3 I I (bB (r:=rH bA [(1,J l6 c6 ob.sources.length),(2,J l7 c7 ob.out.Tables.length),(3,J l8 c8 ob.out.Joins.length),(8,J l9 c9 ob.out.Keys.length),(9,J l10 c10 ob.out.Aggs.length),(10,J l11 c11 ob.out.Items.length)]) (x:=ob) vn I I (nD fO) (.tail _ (.tail _ (.tail _ (.tail _ (.head _))))) (M I)),
       ⟨fg 64 0 68 4 I I I (bn acM (YT _ _ q_r4) ⟨(M I),(M I),d⟩),
       ⟨ga 69 5 I I (AW I),
       d⟩⟩⟩⟩⟩⟩⟩ ?_
      refine av ?_;refine RY (h2:=fun x2 out2 l12 c12 l13 c13=>qj (iC c q tl) i out ob x2 out2=some R) (Of:=fun x2 out2 l12 c12 l13 c13=>[bx bQ 38 b x2,bx dF 38 b1 (fz out2 (J l12 c12 out2.Selects.length) (J l13 c13 out2.Order.length)),K bm 66 l12 c12 out2.Selects,K gY 77 l13 c13 out2.Order,bx (rH bA [(1,J l6 c6 ob.sources.length),(2,J l7 c7 ob.out.Tables.length),(3,J l8 c8 ob.out.Joins.length),(8,J l9 c9 ob.out.Keys.length),(9,J l10 c10 ob.out.Aggs.length),(10,J l11 c11 ob.out.Items.length)]) 137 b4 ob,K bg 48 l6 c6 ob.sources,K aP 3 l7 c7 ob.out.Tables,K aw 71 l8 c8 ob.out.Joins,K aP 3 l9 c9 ob.out.Keys,K aN 73 l10 c10 ob.out.Aggs,K ac 62 l11 c11 ob.out.Items]) (Gf:=fun x2 out2 l12 c12 l13 c13=>[(2,bt bK c),(3,bt cv q),(4,tV (an b 0)),(7,tV (an b1 0)),(10,tV (an b4 0)),(32,fm (bh) q.Selects),(33,iK q.Selects),(34,bd (i:Int))]) (fun x2 out2 l12 c12 l13 c13 h=>?_) (fun K1=>?_)
      ·skip
       refine xE 7 (ts:=[tV (an b1 0),tO bm l12 c12 out2.Selects,tV (an b4 0),tV (an b4 0),tV (an b4 2),H bm ob.out,fm (bm) ([ob.out])]) mixed I I I
        ⟨ug 7 I I (lv 0 uz I I I),
        ⟨ga 98 0 I I (pO E7 Hb (.tail _ (.head _)) (.tail _ (.tail _ (.head _))) I (M I)),
        ⟨f8 I I,
        ⟨ga 100 2 I I (bl (M I)),
        ⟨ga 101 3 I I (lv 2 eW I I I),
        ⟨ga 102 4 I I (bB (r:=rH bA [(1,J l6 c6 ob.sources.length),(2,J l7 c7 ob.out.Tables.length),(3,J l8 c8 ob.out.Joins.length),(8,J l9 c9 ob.out.Keys.length),(9,J l10 c10 ob.out.Aggs.length),(10,J l11 c11 ob.out.Items.length)]) (x:=ob) vn I I (nD fO) (.tail _ (.tail _ (.tail _ (.tail _ (.head _))))) (M I)),
        ⟨ga 103 5 I I (a8 (r:=bm) (ys:=[ob.out]) (xs:=[.tmp 103]) Bm vn I I I I I ⟨(M I),d⟩),
        d⟩⟩⟩⟩⟩⟩⟩ ?_
       refine ib<|cq h fun l14 q_l14 h=>me vn I I I I Bm I I (M I) (M I) q_l14 fun l15 c14=>bv 0 uz I<|ib<|iR E7 I (wO out2 _ _ _) I (M I) (Pw (tQ (M I)))<|bz<|cR A hN I<|eb<|aM<|eb<|aM<|eb<|aM<|eb<|aM<|eb<|aM<|eb ?_;refine aM<|eb<|aM<|kj<|gu<|gu<|kj ?_;exact aS (ay (ih (i+1) x2 ({out2 with Selects:=l14}:bu) l15 c14 l13 c13 ⟨cM A,h⟩) (bb I))
      ·skip
       refine aH I<|dw I<|bY h I (fun h=>?_) (fun h=>?_)
       ·refine cq h fun r5 q_r5 h=>?_
        refine ek 11 [tc (H bK c),tc (H bh e),tc (tV (an b4 0)),tc (tV (an b4 0)),tc (tV (an b4 2)),tc (tV (an b4 2)),tc (tO aP l7 c7 ob.out.Tables),tc (fm (rS) r5),tc (pE r4),tc (tV (an b1 1)),tc (tR)] [false,false,false,false,false,false,false,false,false,false,true] [fun _=>[bx bQ 38 b x,bx dF 38 b1 (fz out (J l c1 out.Selects.length) (J l1 c2 out.Order.length)),K bm 66 l c1 out.Selects,K gY 77 l1 c2 out.Order,bx (rH bA [(1,J l6 c6 ob.sources.length),(2,J l7 c7 ob.out.Tables.length),(3,J l8 c8 ob.out.Joins.length),(8,J l9 c9 ob.out.Keys.length),(9,J l10 c10 ob.out.Aggs.length),(10,J l11 c11 ob.out.Items.length)]) 137 b4 ob,K bg 48 l6 c6 ob.sources,K aP 3 l7 c7 ob.out.Tables,K aw 71 l8 c8 ob.out.Joins,K aP 3 l9 c9 ob.out.Keys,K aN 73 l10 c10 ob.out.Aggs,K ac 62 l11 c11 ob.out.Items],fun sg=>[bx dF 38 b1 (fz ({out with Names:=r5}:bu) (J l c1 out.Selects.length) (J l1 c2 out.Order.length)),bx bQ 38 b x,K bm 66 l c1 out.Selects,K gY 77 l1 c2 out.Order,bx (rH bA [(1,J l6 c6 ob.sources.length),(2,J l7 c7 ob.out.Tables.length),(3,J l8 c8 ob.out.Joins.length),(8,J l9 c9 ob.out.Keys.length),(9,J l10 c10 ob.out.Aggs.length),(10,J l11 c11 ob.out.Items.length)]) 137 b4 ob,K bg 48 l6 c6 ob.sources,K aP 3 l7 c7 ob.out.Tables,K aw 71 l8 c8 ob.out.Joins,K aP 3 l9 c9 ob.out.Keys,K aN 73 l10 c10 ob.out.Aggs,K ac 62 l11 c11 ob.out.Items]] I mixed I I I I I
         ⟨⟨[⟨2,fun _=>bt bK c,none⟩],_,0,0,I,⟨(fun _=>I),d⟩,I,I,I,I,I,fun _ sg _ _=>aa I (qN qa I I)⟩,
         ⟨⟨[⟨9,fun _=>bt bh e,none⟩],_,0,0,I,⟨(fun _=>I),d⟩,I,I,I,I,I,fun _ sg _ _=>aa I (qN qO I I)⟩,
         ⟨⟨[⟨10,fun _=>tV (an b4 0),none⟩],_,0,0,I,⟨(fun _=>I),d⟩,I,I,I,I,I,fun _ sg _ _=>aa I (gH I)⟩,
         ⟨⟨[⟨74,fun _=>tV (an b4 0),some 2⟩],_,0,0,I,⟨(fun _=>I),d⟩,I,I,I,I,I,fun _ sg _ _=>aa I (bl (M I))⟩,
         ⟨⟨[⟨75,fun _=>tV (an b4 0),some 3⟩],_,0,0,I,⟨(fun _=>I),d⟩,I,I,I,I,I,fun _ sg _ _=>aa I (lv 2 eW I I I)⟩,
         ⟨⟨[⟨76,fun _=>tV (an b4 2),some 4⟩],_,0,0,I,⟨(fun _=>I),d⟩,I,I,I,I,I,fun _ sg _ _=>aa I (lv 2 pu I I I)⟩,
         ⟨⟨[⟨77,fun _=>tV (an b4 2),some 5⟩],_,0,0,I,⟨(fun _=>I),d⟩,I,I,I,I,I,fK (fun sg=>aa I (cP fL I (.tail _ (.tail _ (.tail _ (.tail _ (.head _))))) (.tail _ (.tail _ (.tail _ (.tail _ (.tail _ (.tail _ (.head _))))))) (M I)))⟩,
         ⟨⟨[⟨72,fun _=>H bK c,some 0⟩,⟨73,fun _=>H bh e,some 1⟩,⟨78,fun _=>tO aP l7 c7 ob.out.Tables,some 6⟩],_,0,0,I,⟨(fun _=>I),(fun _=>I),(fun _=>I),d⟩,I,I,I,I,I,fun _ sg _ _=>aa I (bn acL (YS _ _ _ q_r5) ⟨(M I),(M I),(kB (M I)),d⟩)⟩,
         ⟨⟨[⟨13,fun _=>H Dx r4,none⟩],_,0,1,I,⟨(fun _=>I),d⟩,I,I,I,I,I,fun _ sg _ _=>aa I (gH I)⟩,
         ⟨⟨[⟨7,fun _=>tV (an b1 0),none⟩],_,0,0,I,⟨(fun _=>I),d⟩,I,I,I,I,I,fun _ sg _ _=>aa I (lv 1 sX I I I)⟩,
         ⟨⟨[⟨81,fun _=>tV (an b1 1),some 9⟩,⟨79,fun _=>H (eO rS) r5,some 7⟩],_,I,⟨(fun _=>I),(fun _=>I),d⟩,I,I,I,fun sg=>bS I (EffOK.fr1 (dq DB I (uu Gl) I (M I) (M I)))⟩,
         d⟩⟩⟩⟩⟩⟩⟩⟩⟩⟩⟩ (fun sg=>?_)
        refine(show RG _ _ _ _ [_,_,_,_,_,_,_,_,_,_,_] _ from ?_);refine bv 2 wV I<|bL fL zl I<|bz<|al<|al<|al<|al<|al<|al<|al<|al<|al<|Ex<|al ?_;exact cm (K1 x ({({({({out with Names:=r5}:bu)with Kinds:=r4}:bu)with Selects:=out.Selects}:bu)with Order:=out.Order}:bu) l c1 l1 c2 h) (bb I)
       ·refine aY<|bv 2 wV I<|Q (bB (r:=dF) (x:=fz out (J l c1 out.Selects.length) (J l1 c2 out.Order.length)) fL I I G9 (.tail _ (.head _)) (M I))<|aX I<|eo h acK (YR _ _) (dd I) fun r6 h=>aX I<|cY I I<|cY I I<|gE I<|bj I<|aT<|aX I<|Q (fV (M I))<|bY h I (fun h=>?_) (fun h=>?_)
        ·refine aY<|Q (bU jS Fj lh I)<|aX I<|Q (JN hI (M I))<|Q (fX (M I) hI)<|bL jS aj I<|gE I<|dJ<|af<|af<|bZ<|af<|bZ<|cn 4 I<|aM<|aM<|aM<|aM ?_;exact aM<|aM<|aM<|aM<|aM<|aM<|so h▸lA I I ⟨di jS I I I,bE I,bE I,d⟩
        ·refine gC<|aJ<|aX I<|bv 2 wV I<|dW<|bL fL zl I<|bz<|al<|al<|al<|al<|al<|al<|al<|al<|al<|Ex<|al ?_;exact cm (K1 x ({({({out with Kinds:=r6.1}:bu)with Selects:=out.Selects}:bu)with Order:=out.Order}:bu) l c1 l1 c2 h) (bb I)
    ·skip
     refine aH I<|dw I<|bY h I (fun h=>?_) (fun h=>?_)
     ·refine aJ<|aX I<|cC qO I<|cq h fun r7 q_r7 h=>jl (EffOK.fr6 (EffOK.fr6 (EffOK.fr6 (EffOK.fr6 (EffOK.fr6 (EffOK.fr6 (EffOK.fr6 (d7 (xs:=[.tmp 51,.tmp 52]) (ts:=[tV (an b4 0),H bh e]) (kE b4 r3.2.2 i2) _ I acN (aar b4 i2 r3.2.2 _ q_r7) ⟨(M I),(M I),d⟩ (fun _=>I))))))))) I fun i3=>?_;refine(show RG _ _ _ _ [_,_,_,_,_,_,_,_,_,_,_] ((53,tT [bd r7.1,bd r7.2.1])::_)from ?_);refine aX I<|cY I I<|cY I I<|gE I<|gE I<|bz<|ae<|ae<|ae<|ae<|ae<|ae<|ae<|al<|al<|al<|al ?_;exact cm (ax r7.1 r7.2.1 r7.2.2 (i3.h 0).1 (i3.h 0).2 (i3.h 1).1 (i3.h 1).2 (i3.h 2).1 (i3.h 2).2 (i3.h 3).1 (i3.h 3).2 (i3.h 4).1 (i3.h 4).2 (i3.h 5).1 (i3.h 5).2 h) (bb I)
     ·refine bk<|ae<|ae<|ae<|ae<|ae<|ae<|ae<|al<|al<|al<|al ?_;exact cm (ax r3.1 r3.2.1 r3.2.2 (i2.h 0).1 (i2.h 0).2 (i2.h 1).1 (i2.h 1).2 (i2.h 2).1 (i2.h 2).2 (i2.h 3).1 (i2.h 3).2 (i2.h 4).1 (i2.h 4).2 (i2.h 5).1 (i2.h 5).2 h) (bb I)

end Go.Proofs.YthbdkceckjihgaaGreatDoor

