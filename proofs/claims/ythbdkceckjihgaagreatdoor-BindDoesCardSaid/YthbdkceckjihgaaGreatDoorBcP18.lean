/- dm of this claim: P18. -/
import Derived.Test.YthbdkceckjihgaaGreatDoorBcT
import Derived.Test.YthbdkceckjihgaaGreatDoorBcP17
set_option linter.all false
namespace Go.Proofs.YthbdkceckjihgaaGreatDoor
open Go
set_option maxRecDepth 100000

def Vp c s tables{R}(h:tU c s tables=some R):jB bd 49 [Z bG c,Z aW s,qn tables] false rS 9 R:=by
 refine jB.of Tryz.func49 I I I fun w0 S0=>aV<|cL I<|cL I<|ck false rS 9<|d (cg zf)<|bP<|aV<|ck false rS 9<|d (cg zf)<|bP ?_;refine vw (tD:=fun out l c1=>pn s out=some R) (Of:=fun out l c1=>[f6 rS 9 l c1 out]) (Gf:=fun out l c1=>[(4,bo aW s),(7,sy l c1 out)]) (fun out l c1 h=>?_) (fun aw=>?_)
 ·skip
  refine aR<|aU ma eK vE I<|bY pe I<|d (bB hI)<|bP<|ai<|aN (k:=43) I fun hN=>bp ?_;refine ay (jC (tD:=fun ls i out1 l1 c2=>(s.Items.drop i=ls)/\kq ls out1=some R) (Of:=fun _ i out1 l1 c2=>[f6 rS 9 l1 c2 out1]) (Gf:=fun _ i out1 l1 c2=>[(7,sy l1 c2 out1),(43,gb (d5) s.Items),(44,iG s.Items),(45,bf (i:Int))]) (fun i out1 l1 c2 h=>?_) (fun e tl ih i out1 l1 c2 h=>?_) s.Items 0 out l c1 ⟨I,h⟩) (a8 I)
  ·obtain⟨D,h⟩:=h
   exact dh D I<|aq<|aI I<|bj I<|so h▸na I I
  ·obtain⟨D,h⟩:=h
   refine dg D I<|aA<|ai<|aV<|d9 pe nH I (cW D)<|aX nH tg I fun b=>bM nH aj I<|aQ 13 I<|bP<|aV<|oU Eg vp I ?_;refine cM ja I<|bh I ?_;refine ia (tD:=fun own=>rP (kq tl) out1 own=some R) (Of:=fun own=>[f6 rS 9 l1 c2 out1]) (Gf:=fun own=>[(7,sy l1 c2 out1),(14,Z rS own),(43,gb (d5) s.Items),(44,iG s.Items),(45,bf (i:Int))]) (fun own h=>?_) (fun K1=>?_)
   ·skip
    refine aL<|aY I<|aY I<|d (ba (r:=rS) (ys:=[own]) (xs:=[.tmp 71]) tK ja I I I I I ⟨(M I),Q⟩)<|cu h fun out2 q_out2 h=>dZ ja I I I I tK I I (M I) (M I) q_out2 fun l2 c3=>gx I<|br<|cS D hN I ?_;exact aO (ay (ih (i+1) out2 l2 c3 ⟨cO D,h⟩) (a8 I))
   ·skip
    refine aV<|oU ql j9 I<|aU ik dX qi I<|oU ql j9 I<|aU ik dX qi I<|bY nb I<|d (fm (M I) hI)<|cu h fun e1 q_e1 h=>d9 nb ko I q_e1<|aX ko wl I fun b1=>bM ko aj I<|aQ 15 I<|bP<|aI I<|d (fW (M I) hS)<|aY I<|ax I (bQ mf gY I I) ?_;refine ax I (bN cF I I)<|ax I (mX I)<|eZ I<|bX h I (fun h=>?_) (fun h=>?_)
    ·refine aL<|aU qT mo ja I<|gx I<|br ?_;exact cj (K1 e1.Name h) (a8 I)
    ·refine bl ?_;exact cj (K1 e.As h) (a8 I)
 ·skip
  refine aV<|aU yp mH xV I<|bX h I (fun h=>?_) (fun h=>?_)
  ·refine aI I<|bY fH I<|d (bB hI)<|bP<|ai<|aN (k:=18) I fun hN1=>bp<|hZ<|yH ?_;refine ay (jC (tD:=fun ls1 i1 out3 l3 c4=>(tables.drop i1=ls1)/\lT c s ls1 out3=some R) (Of:=fun _ i1 out3 l3 c4=>[f6 rS 9 l3 c4 out3]) (Gf:=fun _ i1 out3 l3 c4=>[(3,bo bG c),(4,bo aW s),(7,sy l3 c4 out3),(18,qn tables),(19,iG tables),(20,bf (i1:Int))]) (fun i1 out3 l3 c4 h=>?_) (fun e2 tl1 ih1 i1 out3 l3 c4 h=>?_) tables 0 ([]:List cX) none 0 ⟨I,h⟩) (a8 I)
   ·obtain⟨hx1,h⟩:=h
    refine dh hx1 I ?_;exact cj (aw out3 l3 c4 h) (a8 I)
   ·obtain⟨hx1,h⟩:=h
    refine dg hx1 I<|aA<|ai<|aV<|d9 fH cF I (cW hx1)<|bh I<|aV<|aU kX dE sL I<|aY I ?_;refine cu h fun e3 q_e3 h=>uH qp jN I q_e3<|aU iF ev oq I<|bY ol I<|d (bB hI)<|bP<|ai<|aN (k:=29) I fun hN2=>bp ?_;refine ay (jC (tD:=fun ls2 i2 out4 l4 c5=>(e3.Columns.drop i2=ls2)/\ne (lT c s tl1) ls2 out4=some R) (Of:=fun _ i2 out4 l4 c5=>[f6 rS 9 l4 c5 out4]) (Gf:=fun _ i2 out4 l4 c5=>[(3,bo bG c),(4,bo aW s),(7,sy l4 c5 out4),(18,qn tables),(19,iG tables),(20,bf (i1:Int)),(29,gb (cQ) e3.Columns),(30,iG e3.Columns),(31,bf (i2:Int))]) (fun i2 out4 l4 c5 h=>?_) (fun e4 tl2 ih2 i2 out4 l4 c5 h=>?_) e3.Columns 0 out3 l3 c4 ⟨I,h⟩) (a8 I)
    ·obtain⟨hx2,h⟩:=h
     refine dh hx2 I<|cS hx1 hN1 I ?_;exact aO (ay (ih1 (i1+1) out4 l4 c5 ⟨cO hx1,h⟩) (a8 I))
    ·obtain⟨hx2,h⟩:=h
     refine dg hx2 I<|aA<|ai<|aV<|d9 ol jg I (cW hx2)<|aX jg oC I fun b2=>bM jg aj I<|aQ 11 I<|bP<|aL<|aY I<|oU tA ky I ?_;refine cM ja I<|d (ba (r:=rS) (ys:=[e4.Name]) (xs:=[.tmp 37]) tK ja I I I I I ⟨(M I),Q⟩)<|cu h fun out5 q_out5 h=>dZ ja I I I I tK I I (M I) (M I) q_out5 fun l5 c6=>gx I<|br<|cS hx2 hN2 I ?_;exact aO (ay (ih2 (i2+1) out5 l5 c6 ⟨cO hx2,h⟩) (a8 I))
  ·refine bl<|dI<|aM ?_;exact cj (aw ([]:List cX) none 0 h) (a8 I)
def YR c s tables{R}(h:tU c s tables=some R):cN bd 49 [Z bG c,Z aW s,qn tables] (gb (rS) R):=(Vp _ _ _ h).spec

def YQ a1 b{R}(h:rO a1 b=some R):cN bd 50 [qn a1,qn b] (tT [qn R.1,iD R.2]):=by
 refine dp Tryz.func50 I<|aV<|xp aP<|bC<|bP<|aR<|aY I<|bY fH I<|aY I<|bY fH I<|d (du (M I) (M I))<|bX h I (fun h=>?_) (fun h=>?_)
 ·exact aV<|xp aP<|bC<|cA<|af<|so h▸c0 I I I
 ·refine gp<|aV<|ck false aP 3<|d (cg zf)<|bP<|aR<|aY I<|bY fH I<|d (bB hI)<|bP<|ai<|aN (k:=14) I fun hN=>bp ?_;refine ay (jC (tD:=fun ls i out l c=>(a1.drop i=ls)/\jP b ls i out=some R) (Of:=fun _ i out l c=>[f6 aP 3 l c out]) (Gf:=fun _ i out l c=>[(0,qn a1),(1,qn b),(6,sy l c out),(15,iG a1),(16,bf (i:Int))]) (fun i out l c h=>?_) (fun e tl ih i out l c h=>?_) a1 0 xo none 0 ⟨I,h⟩) (a8 I)
  ·obtain⟨D,h⟩:=h
   refine dh D I<|aq<|aI I<|gx I<|bC<|cA<|tf<|iZ 6 I<|iZ 47 I ?_;exact iZ 4 I<|nF 4 I<|aM<|so h▸c0 I I I
  ·obtain⟨D,h⟩:=h
   refine dg D I<|aA<|ai<|aI I<|bh I<|aI I<|aY I<|d9 fH cF I (cW D) ?_;refine bh I ?_;refine ia (tD:=fun k=>qO b (jP b tl) i out k=some R) (Of:=fun k=>[f6 aP 3 l c out]) (Gf:=fun k=>[(0,qn a1),(1,qn b),(6,sy l c out),(7,bf (i:Int)),(8,bf k),(15,iG a1),(16,bf (i:Int))]) (fun k h=>?_) (fun aw=>?_)
   ·skip
    refine aR<|aY I<|aY I<|cu h fun e1 q_e1 h=>d9 fH cF I q_e1<|ib I<|aY I<|ax I (de I)<|ax I (de I)<|ax I (fun V=>d6 fH cF I (bE I V) (bE I V) q_e1)<|ax I (bN cF I I)<|ax I (de I)<|ax I (fun V=>du (bE I V) (bE I V))<|eZ I<|bX h I (fun h=>?_) (fun h=>?_)
    ·exact aV<|xp aP<|bC<|cA<|af<|bT<|af<|bT<|aM<|so h▸c0 I I I
    ·refine gp<|aL<|aY I<|aY I<|d (ba (r:=aP) (ys:=[k]) (xs:=[.tmp 43]) fH cF I I I I I ⟨(M I),Q⟩)<|cu h fun out1 q_out1 h=>dZ cF I I I I fH I I (M I) (M I) q_out1 fun l1 c1=>gx I<|br<|cS D hN I ?_;exact aO (ay (ih (i+1) out1 l1 c1 ⟨cO D,h⟩) (a8 I))
   ·skip
    refine aI I<|dn I<|bX h I (fun h=>?_) (fun h=>?_)
    ·refine aL<|aY I<|aY I<|cu h fun e2 q_e2 h=>d9 fH cF I q_e2<|gx I<|br ?_;exact cj (aw e2 h) (a8 I)
    ·refine bl ?_;exact cj (aw e h) (a8 I)

def YP k names{R}(h:Aq k names=some R):cN bd 51 [Z je k,gb (rS) names] (tT [bf R.1,bf R.2]):=by
 refine dp Tryz.func51 I<|aV<|cL I<|bF<|bF<|bP<|aR<|aU yo qI ja I<|d (fW (M I) hS)<|bX h I (fun h=>?_) (fun h=>?_)
 ·refine aR<|aU vY oz cF I<|d (eN (M I) hI)<|aY I<|ap I (bQ vY oz I I)<|ap I (bN cF I I)<|ap I (de I)<|ap I (gy tK I)<|ap I (fun V=>eX (bE I V) (bE I V))<|dU I<|bX h I (fun h=>?_) (fun h=>?_)
  ·exact aV<|bF<|dG<|af<|af<|so h▸c0 I I I
  ·exact gp<|aV<|aU vY oz cF I<|d (fm (M I) hI)<|gx I<|dG<|af<|so h▸c0 I I I
 ·refine gp<|aV<|bF<|bF<|bP<|aR<|aY I<|bY tK I<|d (bB hI)<|bP<|ai<|aN (k:=26) I fun hN=>bp ?_;refine ay (uk (tD:=fun ls i found many=>(names.drop i=ls)/\fa k ls i found many=some R) (Of:=fun _ i found many=>[]) (Gf:=fun _ i found many=>[(2,bo je k),(6,bf found),(7,bf many),(26,gb (rS) names),(27,iG names),(28,bf (i:Int))]) (fun i found many h=>?_) (fun e tl ih i found many h=>?_) names 0 (0:Int) (0:Int) ⟨I,h⟩) (a8 I)
  ·obtain⟨D,h⟩:=h
   refine dh D I<|aq<|aR<|aY I<|bP<|ai<|aV<|dn I<|gx I ?_;refine bX h I (fun h=>?_) (fun h=>?_)
   ·exact aV<|bF<|dG<|bT<|so h▸c0 I I I
   ·refine aV<|dn I<|bh I<|lO h I (fun h=>?_) (fun h=>?_)
    ·exact aI I<|gx I<|dG<|bT<|so h▸c0 I I I
    ·exact bl<|bn<|aq<|aV<|bF<|dG<|so h▸c0 I I I
  ·obtain⟨D,h⟩:=h
   refine dg D I<|aA<|ai<|aI I<|d9 tK ja I (cW D)<|gx I<|bh I<|aI I ?_;refine aU yo qI ja I<|d (fW (M I) (M I))<|bX h I (fun h=>?_) (fun h=>?_)
   ·refine aI I<|bh I<|aL<|aY I<|d (fq (M I) hI)<|gx I<|br<|cS D hN I ?_;exact aO (ay (ih (i+1) (i:Int) (IntKind.i64.wrap (many+(1:Int))) ⟨cO D,h⟩) (a8 I))
   ·refine bl<|cS D hN I ?_;exact aO (ay (ih (i+1) found many ⟨cO D,h⟩) (a8 I))

def Ze c q{R}(h:xZ c q=some R):cN bd 13 [Z bG c,Z cw q] (tT [Z cd R.1,bf R.2.1,bf R.2.2]):=by
 refine dp Tryz.func13 I<|aV<|cL I<|cL I<|aX ke ld I fun b=>bF<|bF<|bP<|aR<|cM pl I<|eg h adc (Y3 _) (da I) fun r h=>d (fD (M I))<|bX h I (fun h=>?_) (fun h=>?_)
 ·exact aV<|d (bS ke Ff ld I)<|bM ke aj I<|bF<|dG<|af<|cq 4 I<|so h▸ly I I ⟨di ke I I I,bH I,bH I,Q⟩
 ·refine gp<|aR<|cM vF I<|eg h acU (YT _) (da I) fun r1 h=>d (fD (M I))<|bX h I (fun h=>?_) (fun h=>?_)
  ·exact aV<|d (bS ke Ff ld I)<|bM ke aj I<|bF<|dG<|af<|cq 4 I<|so h▸ly I I ⟨di ke I I I,bH I,bH I,Q⟩
  ·refine gp<|aV<|aU zQ pI cF I<|ck true bw 66<|ck true jd 77<|d (bS (y:=fy (⟨[],[],[],[],q.Limit⟩:bz) UM UL) ke Ff Cx (⟨_,_,_,_,_,I,Gi,I,(M I),I⟩))<|ck true bw 66<|ck true jd 77<|aX (r:=dB) (x:=fy H0 UM UL) ke Cx I fun b1=>qe<|dS<|qe<|dS<|iM (r' :=dB) ke I (gT I) I (M I) (M I)<|ka<|tH<|ka<|tH<|bP<|aA ?_;refine aV<|aU pJ jv zq I<|bY tL I<|d (bB hI)<|bP<|ai<|aN (k:=32) I fun hN=>bp<|hZ<|kb<|kb<|rA ?_;refine ay (Ah (tD:=fun ls i x out l c1 l1 c2=>(q.Selects.drop i=ls)/\iy c q ls i x out=some R) (Of:=fun _ i x out l c1 l1 c2=>[bx cd 38 b x,bx dB 38 b1 (fy out (Y l c1 out.Selects.length) (Y l1 c2 out.Order.length)),K bw 66 l c1 out.Selects,K jd 77 l1 c2 out.Order]) (Gf:=fun _ i x out l c1 l1 c2=>[(2,bo bG c),(3,bo cw q),(4,tV (an b 0)),(7,tV (an b1 0)),(32,gb (aW) q.Selects),(33,iG q.Selects),(34,bf (i:Int))]) (fun i x out l c1 l1 c2 h=>?_) (fun e tl ih i x out l c1 l1 c2 h=>?_) q.Selects 0 H0 ({({(⟨[],[],[],[],q.Limit⟩:bz)with Selects:=([]:List bb)}:bz)with Order:=([]:List ze)}:bz) none 0 none 0 ⟨I,h⟩) (a8 I)
   ·obtain⟨D,h⟩:=h
    refine dh D I<|aq<|aR<|aU si j8 BF I<|bY wZ I<|d (bB hI)<|bP<|ai<|aN (k:=109) I fun hN1=>?_;refine bp ?_;refine ay (Ah (tD:=fun ls1 i1 x1 out1 l2 c3 l3 c4=>(q.Keys.drop i1=ls1)/\qt ls1 x1 out1=some R) (Of:=fun _ i1 x1 out1 l2 c3 l3 c4=>[bx cd 38 b x1,bx dB 38 b1 (fy out1 (Y l2 c3 out1.Selects.length) (Y l3 c4 out1.Order.length)),K bw 66 l2 c3 out1.Selects,K jd 77 l3 c4 out1.Order]) (Gf:=fun _ i1 x1 out1 l2 c3 l3 c4=>[(4,tV (an b 0)),(7,tV (an b1 0)),(109,gb (je) q.Keys),(110,iG q.Keys),(111,bf (i1:Int))]) (fun i1 x1 out1 l2 c3 l3 c4 h=>?_) (fun e1 tl1 ih1 i1 x1 out1 l2 c3 l3 c4 h=>?_) q.Keys 0 x out l c1 l1 c2 ⟨I,h⟩) (a8 I)
    ·obtain⟨hx1,h⟩:=h
     refine dh hx1 I<|aq<|aV<|hU<|ka<|d (ra (q:=cd) (y:=out1) ke I I I I (.tail _ (.tail _ (.tail _ (.head _)))) (fun _ _ _ ho h=>Dk (sa ho (.tail _ (.head _))) (sa ho (.head _)) h) (M I))<|hU<|bM ke aj I<|bF<|bF<|bP ?_;exact yJ<|cq 4 I<|aM<|aM<|aM<|so h▸ly I I ⟨di ke I I I,bH I,bH I,Q⟩
    ·obtain⟨hx1,h⟩:=h
     refine dg hx1 I<|aA<|ai<|aV<|d9 wZ vC I (cW hx1)<|aX vC F0 I fun b2=>bM vC aj I<|aQ 17 I<|bP<|aV<|cM vC I ?_;refine bu 1 vZ I<|d (bA (r:=dB) (x:=fy out1 (Y l2 c3 out1.Selects.length) (Y l3 c4 out1.Order.length)) Gc I I Ha (.tail _ (.head _)) (M I))<|eg h acO (YP _ _) (da I) fun r2 h=>aY I<|cU I I<|cU I I<|gx I<|bh I<|aR<|aY I<|ib I<|bX h I (fun h=>?_) (fun h=>?_)
     ·exact aV<|d (bS ke Ff ld I)<|aY I<|bM ke aj I<|bF<|bj I<|af<|bT<|af<|bT<|cq 4 I<|aM<|aM<|aM<|so h▸ly I I ⟨di ke I I I,bH I,bH I,Q⟩
     ·refine gp<|aL<|bu 3 yq I<|d (p3 JO G8 (.tail _ (.head _)) (.tail _ (.tail _ (.tail _ (.head _)))) I (M I))<|aY I<|aU Tt He xV I<|d (bS (y:=(⟨r2.1,e1.Desc⟩:ze)) H3 aaf So (⟨_,_,_,_,_,I,Lp,I,(M I),⟨_,_,_,_,_,I,Lo,I,(M I),I⟩⟩))<|d (ba (r:=jd) (ys:=[(⟨r2.1,e1.Desc⟩:ze)]) (xs:=[.tmp 131]) Cv H3 I I I I I ⟨(M I),Q⟩)<|ka<|cu h fun l4 q_l4 h=>md H3 I I I I Cv I I (M I) (M I) q_l4 fun l5 c5=>bu 3 yq I<|hU<|iM JO I (xa out1 _ _ _) I (M I) (PQ (tR (M I)))<|br<|cS hx1 hN1 I<|dI ?_;refine kc<|gj<|kc ?_;exact aO (ay (ih1 (i1+1) x1 ({out1 with Order:=l4}:bz) l2 c3 l5 c5 ⟨cO hx1,h⟩) (a8 I))
   ·obtain⟨D,h⟩:=h
    refine dg D I<|aA<|ai<|aI I<|d9 tL pj I (cW D)<|aX pj xn I fun b3=>gx I<|bM pj aj I<|aQ 9 I<|bP<|aA ?_;refine aL<|cM pl I<|d (bS (r:=rH bv [(1,.slice none 0 0),(2,.slice none 0 0),(3,.slice none 0 0),(8,.slice none 0 0),(9,.slice none 0 0),(10,.slice none 0 0)]) (y:=(⟨c,[],Sr⟩:aB)) Z1 aam (zH QM ⟨I,I,I,I,I,I,Q⟩) (⟨_,_,_,_,_,I,IM Lk I I,I,(M I),I⟩))<|AL (M I) I fun b4=>ck true be 48<|ck true aP 3<|ck true av 71<|ck true aP 3<|ck true aT 73<|ck true ac 62 ?_;refine(show RG _ _ _ _ [_,_,_,_,_,_,_,_,_,_,_] _ from ?_);refine bh I<|aI I<|cM pj I<|cu h fun r3 q_r3 h=>jf (EffOK.fr1 (EffOK.fr2 (EffOK.fr3 (EffOK.fr4 (EffOK.fr5 (EffOK.fr6 (dY (xs:=[.tmp 43,.tmp 44]) (ts:=[tV (an b4 0),Z aW e]) (kw b4 (⟨c,[],Sr⟩:aB) (Fy [E2,E2,E2,E2,E2,E2])) _ I acT (aaA b4 (Fy [E2,E2,E2,E2,E2,E2]) (⟨c,[],Sr⟩:aB) _ q_r3) ⟨(M I),(M I),Q⟩ (fun _=>I)))))))) I fun i2=>?_;refine(show RG _ _ _ _ [_,_,_,_,_,_,_,_,_,_,_] ((45,tT [bf r3.1,bf r3.2.1])::_)from ?_);refine aY I<|cU I I<|cU I I<|gx I<|bh I ?_;refine Cl (tD:=fun at1 e2 ob l6 c6 l7 c7 l8 c8 l9 c9 l10 c10 l11 c11=>mP c (iy c q tl) i e x out at1 e2 ob=some R) (Of:=fun at1 e2 ob l6 c6 l7 c7 l8 c8 l9 c9 l10 c10 l11 c11=>[bx cd 38 b x,bx dB 38 b1 (fy out (Y l c1 out.Selects.length) (Y l1 c2 out.Order.length)),K bw 66 l c1 out.Selects,K jd 77 l1 c2 out.Order,bx (rH bv [(1,Y l6 c6 ob.sources.length),(2,Y l7 c7 ob.out.Tables.length),(3,Y l8 c8 ob.out.Joins.length),(8,Y l9 c9 ob.out.Keys.length),(9,Y l10 c10 ob.out.Aggs.length),(10,Y l11 c11 ob.out.Items.length)]) 137 b4 ob,K be 48 l6 c6 ob.sources,K aP 3 l7 c7 ob.out.Tables,K av 71 l8 c8 ob.out.Joins,K aP 3 l9 c9 ob.out.Keys,K aT 73 l10 c10 ob.out.Aggs,K ac 62 l11 c11 ob.out.Items]) (Gf:=fun at1 e2 ob l6 c6 l7 c7 l8 c8 l9 c9 l10 c10 l11 c11=>[(2,bo bG c),(3,bo cw q),(4,tV (an b 0)),(7,tV (an b1 0)),(8,bf (i:Int)),(9,bo aW e),(10,tV (an b4 0)),(11,bf at1),(12,bf e2),(32,gb (aW) q.Selects),(33,iG q.Selects),(34,bf (i:Int))]) (fun at1 e2 ob l6 c6 l7 c7 l8 c8 l9 c9 l10 c10 l11 c11 h=>?_) (fun aw=>?_)
    ·skip
     refine aR<|aY I<|ib I<|bX h I (fun h=>?_) (fun h=>?_)
     ·refine aV<|d (bS ke Ff ld I)<|aY I<|d (JY hI (M I))<|aY I<|d (fq (M I) (M I))<|aY I<|bM ke aj I<|gx I<|bj I<|af<|bT<|af<|bT<|cq 4 I<|aM<|aM<|aM ?_;exact aM<|aM<|aM<|aM<|aM<|aM<|aM<|so h▸ly I I ⟨di ke I I I,bH I,bH I,Q⟩
     ·refine gp<|aA<|cu h fun r4 q_r4 h=>?_
      refine d8 (ts:=[_,_,_,_,_,_,_]) mixed I I
       ⟨qN 2 I I (nM pl I I),
       ⟨fv I I,
       ⟨fL 65 1 I I (bm (M I)),
       ⟨fL 66 2 I I (lu 2 eU I I I),
       ⟨fL 67 3 I I (bA (r:=rH bv [(1,Y l6 c6 ob.sources.length),(2,Y l7 c7 ob.out.Tables.length),(3,Y l8 c8 ob.out.Joins.length),(8,Y l9 c9 ob.out.Keys.length),(9,Y l10 c10 ob.out.Aggs.length),(10,Y l11 c11 ob.out.Items.length)]) (x:=ob) BE I I (nI fP) (.tail _ (.tail _ (.tail _ (.tail _ (.head _))))) (M I)),
       ⟨eh 64 0 68 4 I I I (bq acR (YS _ _ q_r4) ⟨(M I),(M I),Q⟩),
       ⟨fL 69 5 I I (Cm I),
       Q⟩⟩⟩⟩⟩⟩⟩ ?_
      refine aq ?_;refine Se (tD:=fun x2 out2 l12 c12 l13 c13=>qu (iy c q tl) i out ob x2 out2=some R) (Of:=fun x2 out2 l12 c12 l13 c13=>[bx cd 38 b x2,bx dB 38 b1 (fy out2 (Y l12 c12 out2.Selects.length) (Y l13 c13 out2.Order.length)),K bw 66 l12 c12 out2.Selects,K jd 77 l13 c13 out2.Order,bx (rH bv [(1,Y l6 c6 ob.sources.length),(2,Y l7 c7 ob.out.Tables.length),(3,Y l8 c8 ob.out.Joins.length),(8,Y l9 c9 ob.out.Keys.length),(9,Y l10 c10 ob.out.Aggs.length),(10,Y l11 c11 ob.out.Items.length)]) 137 b4 ob,K be 48 l6 c6 ob.sources,K aP 3 l7 c7 ob.out.Tables,K av 71 l8 c8 ob.out.Joins,K aP 3 l9 c9 ob.out.Keys,K aT 73 l10 c10 ob.out.Aggs,K ac 62 l11 c11 ob.out.Items]) (Gf:=fun x2 out2 l12 c12 l13 c13=>[(2,bo bG c),(3,bo cw q),(4,tV (an b 0)),(7,tV (an b1 0)),(10,tV (an b4 0)),(32,gb (aW) q.Selects),(33,iG q.Selects),(34,bf (i:Int))]) (fun x2 out2 l12 c12 l13 c13 h=>?_) (fun K1=>?_)
      ·skip
       refine xN 7 (ts:=[tV (an b1 0),tO bw l12 c12 out2.Selects,tV (an b4 0),tV (an b4 0),tV (an b4 2),Z bw ob.out,gb (bw) ([ob.out])]) mixed I I I
        ⟨qN 7 I I (lu 0 xh I I I),
        ⟨fL 98 0 I I (p3 H5 Hb (.tail _ (.head _)) (.tail _ (.tail _ (.head _))) I (M I)),
        ⟨fv I I,
        ⟨fL 100 2 I I (bm (M I)),
        ⟨fL 101 3 I I (lu 2 eU I I I),
        ⟨fL 102 4 I I (bA (r:=rH bv [(1,Y l6 c6 ob.sources.length),(2,Y l7 c7 ob.out.Tables.length),(3,Y l8 c8 ob.out.Joins.length),(8,Y l9 c9 ob.out.Keys.length),(9,Y l10 c10 ob.out.Aggs.length),(10,Y l11 c11 ob.out.Items.length)]) (x:=ob) BE I I (nI fP) (.tail _ (.tail _ (.tail _ (.tail _ (.head _))))) (M I)),
        ⟨fL 103 5 I I (ba (r:=bw) (ys:=[ob.out]) (xs:=[.tmp 103]) A5 BE I I I I I ⟨(M I),Q⟩),
        Q⟩⟩⟩⟩⟩⟩⟩ ?_
       refine hU<|cu h fun l14 q_l14 h=>md BE I I I I A5 I I (M I) (M I) q_l14 fun l15 c14=>bu 0 xh I<|hU<|iM H5 I (xb out2 _ _ _) I (M I) (PQ (tR (M I)))<|br<|cS D hN I<|eb<|aM<|eb<|aM<|eb<|aM<|eb<|aM<|eb<|aM<|eb ?_;refine aM<|eb<|aM<|kc<|gj<|gj<|kc ?_;exact aO (ay (ih (i+1) x2 ({out2 with Selects:=l14}:bz) l15 c14 l13 c13 ⟨cO D,h⟩) (a8 I))
      ·skip
       refine aI I<|dn I<|bX h I (fun h=>?_) (fun h=>?_)
       ·refine cu h fun r5 q_r5 h=>?_
        refine er 11 [tc (Z bG c),tc (Z aW e),tc (tV (an b4 0)),tc (tV (an b4 0)),tc (tV (an b4 2)),tc (tV (an b4 2)),tc (tO aP l7 c7 ob.out.Tables),tc (gb (rS) r5),tc (qn r4),tc (tV (an b1 1)),tc (tS)] [false,false,false,false,false,false,false,false,false,false,true] [fun _=>[bx cd 38 b x,bx dB 38 b1 (fy out (Y l c1 out.Selects.length) (Y l1 c2 out.Order.length)),K bw 66 l c1 out.Selects,K jd 77 l1 c2 out.Order,bx (rH bv [(1,Y l6 c6 ob.sources.length),(2,Y l7 c7 ob.out.Tables.length),(3,Y l8 c8 ob.out.Joins.length),(8,Y l9 c9 ob.out.Keys.length),(9,Y l10 c10 ob.out.Aggs.length),(10,Y l11 c11 ob.out.Items.length)]) 137 b4 ob,K be 48 l6 c6 ob.sources,K aP 3 l7 c7 ob.out.Tables,K av 71 l8 c8 ob.out.Joins,K aP 3 l9 c9 ob.out.Keys,K aT 73 l10 c10 ob.out.Aggs,K ac 62 l11 c11 ob.out.Items],fun sg=>[bx dB 38 b1 (fy ({out with Names:=r5}:bz) (Y l c1 out.Selects.length) (Y l1 c2 out.Order.length)),bx cd 38 b x,K bw 66 l c1 out.Selects,K jd 77 l1 c2 out.Order,bx (rH bv [(1,Y l6 c6 ob.sources.length),(2,Y l7 c7 ob.out.Tables.length),(3,Y l8 c8 ob.out.Joins.length),(8,Y l9 c9 ob.out.Keys.length),(9,Y l10 c10 ob.out.Aggs.length),(10,Y l11 c11 ob.out.Items.length)]) 137 b4 ob,K be 48 l6 c6 ob.sources,K aP 3 l7 c7 ob.out.Tables,K av 71 l8 c8 ob.out.Joins,K aP 3 l9 c9 ob.out.Keys,K aT 73 l10 c10 ob.out.Aggs,K ac 62 l11 c11 ob.out.Items]] I mixed I I I I I
         ⟨⟨[⟨2,fun _=>bo bG c,none⟩],_,0,0,I,⟨(fun _=>I),Q⟩,I,I,I,I,I,fun _ sg _ _=>h2 I (nM pl I I)⟩,
         ⟨⟨[⟨9,fun _=>bo aW e,none⟩],_,0,0,I,⟨(fun _=>I),Q⟩,I,I,I,I,I,fun _ sg _ _=>h2 I (nM pj I I)⟩,
         ⟨⟨[⟨10,fun _=>tV (an b4 0),none⟩],_,0,0,I,⟨(fun _=>I),Q⟩,I,I,I,I,I,fun _ sg _ _=>h2 I (fR I)⟩,
         ⟨⟨[⟨74,fun _=>tV (an b4 0),some 2⟩],_,0,0,I,⟨(fun _=>I),Q⟩,I,I,I,I,I,fun _ sg _ _=>h2 I (bm (M I))⟩,
         ⟨⟨[⟨75,fun _=>tV (an b4 0),some 3⟩],_,0,0,I,⟨(fun _=>I),Q⟩,I,I,I,I,I,fun _ sg _ _=>h2 I (lu 2 eU I I I)⟩,
         ⟨⟨[⟨76,fun _=>tV (an b4 2),some 4⟩],_,0,0,I,⟨(fun _=>I),Q⟩,I,I,I,I,I,fun _ sg _ _=>h2 I (lu 2 rh I I I)⟩,
         ⟨⟨[⟨77,fun _=>tV (an b4 2),some 5⟩],_,0,0,I,⟨(fun _=>I),Q⟩,I,I,I,I,I,fM (fun sg=>h2 I (cR fV I (.tail _ (.tail _ (.tail _ (.tail _ (.head _))))) (.tail _ (.tail _ (.tail _ (.tail _ (.tail _ (.tail _ (.head _))))))) (M I)))⟩,
         ⟨⟨[⟨72,fun _=>Z bG c,some 0⟩,⟨73,fun _=>Z aW e,some 1⟩,⟨78,fun _=>tO aP l7 c7 ob.out.Tables,some 6⟩],_,0,0,I,⟨(fun _=>I),(fun _=>I),(fun _=>I),Q⟩,I,I,I,I,I,fun _ sg _ _=>h2 I (bq acQ (YR _ _ _ q_r5) ⟨(M I),(M I),(kp (M I)),Q⟩)⟩,
         ⟨⟨[⟨13,fun _=>Z DD r4,none⟩],_,0,1,I,⟨(fun _=>I),Q⟩,I,I,I,I,I,fun _ sg _ _=>h2 I (fR I)⟩,
         ⟨⟨[⟨7,fun _=>tV (an b1 0),none⟩],_,0,0,I,⟨(fun _=>I),Q⟩,I,I,I,I,I,fun _ sg _ _=>h2 I (lu 1 vZ I I I)⟩,
         ⟨⟨[⟨81,fun _=>tV (an b1 1),some 9⟩,⟨79,fun _=>Z (eM rS) r5,some 7⟩],_,I,⟨(fun _=>I),(fun _=>I),Q⟩,I,I,I,fun sg=>bL I (EffOK.fr1 (dr Gc I (uy Gj) I (M I) (M I)))⟩,
         Q⟩⟩⟩⟩⟩⟩⟩⟩⟩⟩⟩ (fun sg=>?_)
        refine(show RG _ _ _ _ [_,_,_,_,_,_,_,_,_,_,_] _ from ?_);refine bu 2 zP I<|bM fV zx I<|br<|al<|al<|al<|al<|al<|al<|al<|al<|al<|Ez<|al ?_;exact cj (K1 x ({({({({out with Names:=r5}:bz)with Kinds:=r4}:bz)with Selects:=out.Selects}:bz)with Order:=out.Order}:bz) l c1 l1 c2 h) (a8 I)
       ·refine aV<|bu 2 zP I<|d (bA (r:=dB) (x:=fy out (Y l c1 out.Selects.length) (Y l1 c2 out.Order.length)) fV I I G9 (.tail _ (.head _)) (M I))<|aY I<|eg h acP (YQ _ _) (da I) fun r6 h=>aY I<|cU I I<|cU I I<|gx I<|bh I<|aR<|aY I<|d (fD (M I))<|bX h I (fun h=>?_) (fun h=>?_)
        ·refine aV<|d (bS ke Ff ld I)<|aY I<|d (JY hI (M I))<|d (fq (M I) hI)<|bM ke aj I<|gx I<|dG<|af<|af<|bT<|af<|bT<|cq 4 I<|aM<|aM<|aM<|aM ?_;exact aM<|aM<|aM<|aM<|aM<|aM<|so h▸ly I I ⟨di ke I I I,bH I,bH I,Q⟩
        ·refine gp<|aL<|aY I<|bu 2 zP I<|dS<|bM fV zx I<|br<|al<|al<|al<|al<|al<|al<|al<|al<|al<|Ez<|al ?_;exact cj (K1 x ({({({out with Kinds:=r6.1}:bz)with Selects:=out.Selects}:bz)with Order:=out.Order}:bz) l c1 l1 c2 h) (a8 I)
    ·skip
     refine aI I<|dn I<|bX h I (fun h=>?_) (fun h=>?_)
     ·refine aL<|aY I<|cM pj I<|cu h fun r7 q_r7 h=>jf (EffOK.fr6 (EffOK.fr6 (EffOK.fr6 (EffOK.fr6 (EffOK.fr6 (EffOK.fr6 (EffOK.fr6 (dY (xs:=[.tmp 51,.tmp 52]) (ts:=[tV (an b4 0),Z aW e]) (kw b4 r3.2.2 i2) _ I acS (aaz b4 i2 r3.2.2 _ q_r7) ⟨(M I),(M I),Q⟩ (fun _=>I))))))))) I fun i3=>?_;refine(show RG _ _ _ _ [_,_,_,_,_,_,_,_,_,_,_] ((53,tT [bf r7.1,bf r7.2.1])::_)from ?_);refine aY I<|cU I I<|cU I I<|gx I<|gx I<|br<|ae<|ae<|ae<|ae<|ae<|ae<|ae<|al<|al<|al<|al ?_;exact cj (aw r7.1 r7.2.1 r7.2.2 (i3.h 0).1 (i3.h 0).2 (i3.h 1).1 (i3.h 1).2 (i3.h 2).1 (i3.h 2).2 (i3.h 3).1 (i3.h 3).2 (i3.h 4).1 (i3.h 4).2 (i3.h 5).1 (i3.h 5).2 h) (a8 I)
     ·refine bl<|ae<|ae<|ae<|ae<|ae<|ae<|ae<|al<|al<|al<|al ?_;exact cj (aw r3.1 r3.2.1 r3.2.2 (i2.h 0).1 (i2.h 0).2 (i2.h 1).1 (i2.h 1).2 (i2.h 2).1 (i2.h 2).2 (i2.h 3).1 (i2.h 3).2 (i2.h 4).1 (i2.h 4).2 (i2.h 5).1 (i2.h 5).2 h) (a8 I)

end Go.Proofs.YthbdkceckjihgaaGreatDoor

