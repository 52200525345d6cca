/- cH of this claim: P4. -/
import Derived.Test.YthbdkceckjihgaaGreatDoorBaT
import Derived.Test.YthbdkceckjihgaaGreatDoorBaP3
set_option linter.all false
namespace Go.Proofs.YthbdkceckjihgaaGreatDoor
open Go
set_option maxRecDepth 100000

def LZ tag{R}(h:qn tag=some R):cw aH 63 [aO tag] (ia R):=by
 exact cX Tryz.func63 I<|aU<|bQ<|bG<|aG I<|eN I<|a8 I<|aK I (cO I)<|aK I (fun K=>e9 (bI I K) hI)<|aK I (m4 I)<|cd I I I I (fun K=>fh I)<|cd I I I I (fun K=>jg (bI I K) hI)<|aK I (fun K=>f9 (bI I K) (fun D=>(bI I (ku K D))))<|gU I<|aR I<|so h▸aA I I

def L0 kinds n l{R}(h:q4 kinds n l=some R):cw aH 62 [V bg n,lE l,bb Mq kinds] (tT [aO R.1,aO R.2]):=by
 refine cX Tryz.func62 I<|aU<|cY I<|bJ<|bJ<|bG<|aU<|bJ<|bG<|aZ<|a8 I<|cu eu I<|d (bt hI)<|bG<|ai<|aQ (k:=12) I fun hN=>bq ?_;refine aE (ft (aw:=fun ls i own=>(l.drop i=ls)/\jD kinds n ls own=some R) (Of:=fun _ i own=>[]) (Gf:=fun _ i own=>[(2,bb Mq kinds),(3,bb bg n),(7,aO own),(12,lE l),(13,jf l),(14,aO (i:Int))]) (fun i own h=>?_) (fun e tl ih i own h=>?_) l 0 (0:Int) ⟨I,h⟩) (be I)
 ·obtain⟨A,h⟩:=h
  refine dr A I<|av<|aG I<|bk I<|aU<|bJ<|bG ?_;refine aF<|ai<|aU<|bN mh gF cF I<|eN I<|bk I<|m3 h I (fun h=>?_) (fun h=>?_)
  ·exact aU<|pb w3 nR I<|bN rL pL cF I<|gJ I<|ev<|cz<|so h▸dO I I I
  ·refine aU<|bN mh gF cF I<|eN I<|bk I<|m3 h I (fun h=>?_) (fun h=>?_)
   ·exact aU<|cN gc I<|bN pS jC cF I<|ck h fun e1 q_e1 h=>eM eu cF I q_e1<|gJ I<|ev<|cz<|so h▸dO I I I
   ·refine aU<|bN mh gF cF I<|eD h PL (LZ _) (dc I) fun r h=>bk I<|m3 h I (fun h=>?_) (fun h=>?_)
    ·refine aL<|bJ<|bJ<|bu<|bl<|av<|aZ<|a8 I<|eN I<|a8 I<|aK I (cO I)<|aK I (sq I)<|aK I (m4 I)<|cd I I I I (fun K=>fh I)<|cd I I I I (fun K=>fh I)<|cd I I I I (fun K=>eJ (bI I K) (bI I K))<|aK I (fun K=>f9 (bI I K) (fun D=>(bI I (ku K D))))<|gU I<|cE h I (fun h=>?_) (fun h=>?_)
     ·exact aU<|bJ<|ev<|ah<|so h▸dO I I I
     ·exact ip<|aG I<|gJ I<|ev<|so h▸dO I I I
    ·refine aU<|bN mh gF cF I<|eN I<|a8 I<|aK I (dP mh gF I I)<|aK I (du cF I I)<|aK I (lF I)<|gU I<|a8 I<|aK I (dP mh gF I I)<|aK I (du cF I I)<|aK I (lF I)<|gU I<|bk I<|m3 h I (fun h=>?_) (fun h=>?_)
     ·refine aL<|bJ<|bu<|bl<|av<|aZ<|a8 I<|eN I<|a8 I<|aK I (cO I)<|aK I (sq I)<|aK I (m4 I)<|cd I I I I (fun K=>fh I)<|cd I I I I (fun K=>fh I)<|cd I I I I (fun K=>eJ (bI I K) (bI I K))<|aK I (fun K=>f9 (bI I K) (fun D=>(bI I (ku K D))))<|gU I<|cE h I (fun h=>?_) (fun h=>?_)
      ·exact aU<|bJ<|ev<|ah<|so h▸dO I I I
      ·exact ip<|aG I<|gJ I<|ev<|so h▸dO I I I
     ·refine bA<|bl<|av<|aZ<|a8 I<|eN I<|a8 I<|aK I (cO I)<|aK I (sq I)<|aK I (m4 I)<|cd I I I I (fun K=>fh I)<|cd I I I I (fun K=>fh I)<|cd I I I I (fun K=>eJ (bI I K) (bI I K))<|aK I (fun K=>f9 (bI I K) (fun D=>(bI I (ku K D))))<|gU I<|cE h I (fun h=>?_) (fun h=>?_)
      ·exact aU<|bJ<|ev<|ah<|so h▸dO I I I
      ·exact ip<|aG I<|gJ I<|ev<|so h▸dO I I I
 ·obtain⟨A,h⟩:=h
  refine dq A I<|aF<|ai<|aU<|eM eu cF I (dv A)<|bk I<|ai<|aG I<|eN I ?_;refine a8 I<|aK I (cO I)<|aK I (cO I)<|aK I (fun K=>mg (bI I K) (bI I K))<|gU I<|bk I<|m3 h I (fun h=>?_) (fun h=>?_)
  ·refine bA<|bl<|db A hN I ?_;exact aM (aE (ih (i+1) own ⟨cW A,h⟩) (be I))
  ·refine aG I<|eN I<|bk I<|m3 h I (fun h=>?_) (fun h=>?_)
   ·refine aL<|a8 I<|gJ I<|bu<|bl<|db A hN I ?_;exact aM (aE (ih (i+1) e ⟨cW A,h⟩) (be I))
   ·refine aL<|bJ<|bu<|bl<|db A hN I ?_;exact aM (aE (ih (i+1) hJ ⟨cW A,h⟩) (be I))

def A7 e kinds{R}(h:pn e kinds=some R):cw aH 19 [V aa e,lE kinds] (tT [aO R.1,aO R.2]):=by
 refine cX Tryz.func19 I<|aU<|cY I<|cY I<|bJ<|bJ<|bG<|aZ<|cN ce I<|eD h Kc (A5 _) (dc I) fun r h=>bk I<|aG I<|ic I<|bG ?_;refine m3 h I (fun h=>?_) (fun h=>?_)
 ·exact aG I<|bJ<|aR I<|ah<|so h▸dO I I I
 ·refine ip<|aZ<|cN gc I<|cu eu I<|d (bt hI)<|bG<|ai<|aQ (k:=16) I fun hN=>bq ?_;refine aE (eH (aw:=fun ls i=>(kinds.drop i=ls)/\pX e kinds ls=some R) (Of:=fun _ i=>[]) (Gf:=fun _ i=>[(2,bb aa e),(3,bb Mq kinds),(16,lE kinds),(17,jf kinds),(18,aO (i:Int))]) (fun i h=>?_) (fun e1 tl ih i h=>?_) kinds 0 ⟨I,h⟩) (be I)
  ·obtain⟨A,h⟩:=h
   refine dr A I<|av<|aZ<|cN ce I<|xk h PO (Je _) (dc I) fun r1 h l c=>d (eK eu (.head _) (Y I))<|d (bt hI)<|bG<|ai ?_;refine iY (.head _) fun hN1=>bq ?_;refine aE (eH (aw:=fun ls1 i1=>(r1.drop i1=ls1)/\pW e kinds ls1=some R) (Of:=fun _ i1=>[eg aC 3 l c r1]) (Gf:=fun _ i1=>[(2,bb aa e),(3,bb Mq kinds),(30,oq l c r1),(31,jf r1),(32,aO (i1:Int))]) (fun i1 h=>?_) (fun e2 tl1 ih1 i1 h=>?_) r1 0 ⟨I,h⟩) (be I)
   ·obtain⟨hx1,h⟩:=h
    refine dr hx1 I<|av<|aU<|cN ce I<|d ((show bE _ _ _ _ ((eV aH IM IL (fun(x:aS×(List Int))=>(q4 kinds) x.1 x.2)))from jx (cts:=[bb Mq kinds]) (caps:=[.tmp 3]) PM ⟨(Y I),Q⟩ (fun x y h=>L0 _ _ _ h)))<|eD h PN (L1 _ _) (dc I) fun r2 h=>dx I I<|dx I I<|gJ I<|gJ I<|bu ?_;exact av<|rk<|aI<|so h▸dO I I I
   ·obtain⟨hx1,h⟩:=h
    refine dq hx1 I<|aF<|ai<|aU<|d (bK eu cF (.head _) (Y I) (Y I) (dv hx1))<|d (cK (r:=aC) (i:=(i1:Int)) (foff:=0) cF I I bZ I (.head _) (dv hx1) (Y I))<|bk I<|aG I<|cN gc I<|cu eu I ?_;refine d (e9 (Y I) (Y I))<|cE h I (fun h=>?_) (fun h=>?_)
    ·exact aU<|bJ<|ev<|cz<|ah<|cz<|aI<|so h▸dO I I I
    ·refine bA<|db hx1 hN1 I ?_;exact aM (aE (ih1 (i1+1) ⟨cW hx1,h⟩) (be I))
  ·obtain⟨A,h⟩:=h
   refine dq A I<|aF<|ai<|aU<|eM eu cF I (dv A)<|bk I<|aG I<|d (fl (Y I) hI)<|a8 I ?_;refine aK I (cO I)<|aK I (fun K=>fz (bI I K) hI)<|gU I<|cE h I (fun h=>?_) (fun h=>?_)
   ·exact aU<|bJ<|ev<|cz<|ah<|cz<|so h▸dO I I I
   ·refine bA<|db A hN I ?_;exact aM (aE (ih (i+1) ⟨cW A,h⟩) (be I))

def HR{R}(h:ky=some R):cw aH 76 [] (u4 (fun y:Int=>aO y) m8 R):=by
 exact cX Tryz.func76 I<|aU<|d (bC (show ax _ _ (.const (.map none)) (tV (.map none))from fun _ _ _=>I))<|bG<|aU<|tk (AJ (fun y:Int=>aO y)) m8 I fun b=>uN (γ:=(fun y:Int=>aO y)) (y:=(1:Int)) CN (pI qz) (Y I) (Dx hI) hI fun os=>uN (γ:=(fun y:Int=>aO y)) (y:=(2:Int)) CN (pI qz) (Y I) (Dx hI) hI fun os1=>uN (γ:=(fun y:Int=>aO y)) (y:=(3:Int)) CN (pI qz) (Y I) (Dx hI) hI fun os2=>uN (γ:=(fun y:Int=>aO y)) (y:=(4:Int)) CN (pI qz) (Y I) (Dx hI) hI fun os3=>uN (γ:=(fun y:Int=>aO y)) (y:=(5:Int)) CN (pI qz) (Y I) (Dx hI) hI fun os4=>a8 I<|aR I<|CH 0 I<|so h▸aA I I

def Md(l:Option Nat)(c:Nat) out e{R}(h:zJ out e=some R):dB aH 235 [oq l c out,V aa e] [Z bg 106 l c out] (fun i:OI=>tO bg (i.h 0).1 (i.h 0).2 R) (fun i=>[Z bg 106 (i.h 0).1 (i.h 0).2 R]):=by
 refine dB.of Tryz.func235 I I I fun w0 S0=>Ix 0 I<|aU<|cY I<|bS false bg 106<|d (bC tw)<|bG<|aG I<|d (fJ o7 (kS (Y I)))<|bk I<|aZ<|bN s5 lP C0 I<|cu o7 I<|d (bt hI)<|bu ?_;refine av<|ai<|aQ (k:=11) I fun hN=>bq<|qg ?_;refine aE (jO (aw:=fun ls i out1 l1 c1=>(e.Nodes.drop i=ls)/\jY out ls out1=some R) (Of:=fun _ i out1 l1 c1=>[Z bg 106 l1 c1 out1]) (Gf:=fun _ i out1 l1 c1=>[(0,tO bg l1 c1 out1),(5,jf out),(11,fO (bg) e.Nodes),(12,jf e.Nodes),(13,aO (i:Int))]) (fun i out1 l1 c1 h=>?_) (fun e1 tl ih i out1 l1 c1 h=>?_) e.Nodes 0 out l c ⟨I,h⟩) (be I)
 ·obtain⟨A,h⟩:=h
  exact dr A I<|av<|aG I<|aR I<|so h▸de I (oi l1 c1) I I (fun _ _ h=>h)
 ·obtain⟨A,h⟩:=h
  refine dq A I<|aF<|ai<|aU<|eM o7 fP I (dv A)<|aT fP kn I fun b=>bX fP al I<|bG ?_;refine iL (aw:=fun n=>pV out (jY out tl) out1 n=some R) (Of:=fun n=>[Z bg 106 l1 c1 out1,bx bg 106 b n]) (Gf:=fun n=>[(0,tO bg l1 c1 out1),(5,jf out),(7,tV (aj b 0)),(11,fO (bg) e.Nodes),(12,jf e.Nodes),(13,aO (i:Int))]) (fun n h=>?_) (fun hg=>?_)
  ·skip
   refine iL (aw:=fun n1=>pU (jY out tl) out1 n1=some R) (Of:=fun n1=>[Z bg 106 l1 c1 out1,bx bg 106 b n1]) (Gf:=fun n1=>[(0,tO bg l1 c1 out1),(5,jf out),(7,tV (aj b 0)),(11,fO (bg) e.Nodes),(12,jf e.Nodes),(13,aO (i:Int))]) (fun n1 h=>?_) (fun K1=>?_)
   ·skip
    refine aL<|a8 I<|d (bm fP I I bZ (.tail _ (.head _)) (Y I))<|d (aW (r:=bg) (ys:=[n1]) (xs:=[.tmp 34]) o7 fP I I I I I ⟨(Y I),Q⟩)<|ck h fun out2 q_out2 h=>n6 fP I I I I o7 I I (Y I) (Y I) q_out2 fun l2 c2=>gJ I<|bu<|db A hN I<|dp<|aI ?_;exact aM (aE (ih (i+1) out2 l2 c2 ⟨cW A,h⟩) (be I))
   ·skip
    refine aU<|bz 2 uB I<|d (bm cF I I pM (.tail _ (.head _)) (Y I))<|d (e9 (Y I) hI)<|cE h I (fun h=>?_) (fun h=>?_)
    ·refine aL<|bz 2 uB I<|d (bm cF I I pM (.tail _ (.head _)) (Y I))<|a8 I<|d (iA (Y I) (Y I))<|bz 2 uB I<|cU<|bX cF xA I<|bu<|dp ?_;exact cx (K1 (aS.mk n.Tag n.L (IntKind.i64.wrap (n.R+(out.length:Int))) n.Col n.Value) h) (be I)
    ·refine bA ?_;exact cx (K1 n h) (be I)
  ·skip
   refine aU<|bz 1 uC I<|d (bm cF I I pN (.head _) (Y I))<|d (e9 (Y I) hI)<|cE h I (fun h=>?_) (fun h=>?_)
   ·refine aL<|bz 1 uC I<|d (bm cF I I pN (.head _) (Y I))<|a8 I<|d (iA (Y I) (Y I))<|bz 1 uC I<|bX cF xB I<|bu<|dp ?_;exact cx (hg (aS.mk e1.Tag (IntKind.i64.wrap (e1.L+(out.length:Int))) e1.R e1.Col e1.Value) h) (be I)
   ·refine bA<|dp ?_;exact cx (hg e1 h) (be I)

def Jv root l{R}(h:we root l=some R):cw aH 214 [V bg root,fO (aa) l] (V aa R):=by
 refine cX Tryz.func214 I<|aU<|w6 (Y I) I fun b=>aT ce dD I fun b1=>bG<|aU<|bS false bg 106<|d (bC tw)<|bG<|aU<|d (nr (r:=aC) (ys:=[hJ,hJ]) (xs:=[.const (.int .i64 (-1)),.const (.int .i64 (-1))]) xa cF I Ap I I ⟨hI,hI,Q⟩)<|aT (r:=Ah) (x:=(List.replicate 2 (0:Int))) Ap (fun _=>Cr (r:=aC) 2 (fun _=>I) _) I fun b2=>bX Ap al I<|bG<|aZ<|a8 I ?_;refine cu om I<|d (bt hI)<|bG<|ai<|aQ (k:=10) I fun hN=>bq<|fg<|GC<|Iu 5 I<|fg<|jd<|pt<|pt ?_;refine aE (yA (aw:=fun ls i out l1 c at1=>(l.drop i=ls)/\nT root ls i out at1=some R) (Of:=fun _ i out l1 c at1=>[Z bg 106 l1 c out,bx bg 106 b root,bx aa 62 b1 mn,bx Ah 80 b2 at1]) (Gf:=fun _ i out l1 c at1=>[(2,tV (aj b 0)),(4,tV (aj b1 0)),(5,tO bg l1 c out),(6,tV (aj b2 0)),(10,fO (aa) l),(11,jf l),(12,aO (i:Int))]) (fun i out l1 c at1 h=>?_) (fun e tl ih i out l1 c at1 h=>?_) l 0 ([]:List aS) none 0 ([hJ,hJ]) ⟨I,h⟩) (be I)
 ·obtain⟨A,h⟩:=h
  refine dr A I<|av<|aF<|ck h fun e1 q_e1 h=>ck h fun e2 q_e2 h=>?_
  refine eh 6 [tc (tV (aj b2 ((0:Int).toNat*1))),tc (aO e1),tc (tV (aj b2 ((1:Int).toNat*1))),tc (aO e2),tc (tV (aj b 1)),tc (oX)] [false,false,false,false,false,true] [fun _=>[Z bg 106 l1 c out,bx bg 106 b root,bx aa 62 b1 mn,bx Ah 80 b2 at1],fun sg=>[bx bg 106 b ({root with L:=e1}:aS),Z bg 106 l1 c out,bx aa 62 b1 mn,bx Ah 80 b2 at1]] I mixed I I I I I
   ⟨⟨[⟨6,fun _=>tV (aj b2 0),none⟩],_,0,0,I,⟨(fun _=>I),Q⟩,I,I,I,I,I,d6 (fun sg=>h2 I (kq xa cF (.tail _ (.tail _ (.tail _ (.head _)))) (Y I) hI q_e1))⟩,
   ⟨⟨[⟨26,fun _=>tV (aj b2 ((0:Int).toNat*1)),some 0⟩],_,0,0,I,⟨(fun _=>I),Q⟩,I,I,I,I,I,d6 (fun sg=>h2 I (xP cF I I (.tail _ (.tail _ (.tail _ (.head _)))) q_e1 (Y I)))⟩,
   ⟨⟨[⟨6,fun _=>tV (aj b2 0),none⟩],_,0,1,I,⟨(fun _=>I),Q⟩,I,I,I,I,I,nA (fun sg=>h2 I (kq xa cF (.tail _ (.tail _ (.tail _ (.head _)))) (Y I) hI q_e2)) (d6 (fun sg=>h2 I (kq xa cF (.tail _ (.tail _ (.tail _ (.head _)))) (Y I) hI q_e2)))⟩,
   ⟨⟨[⟨28,fun _=>tV (aj b2 ((1:Int).toNat*1)),some 2⟩],_,0,1,I,⟨(fun _=>I),Q⟩,I,I,I,I,I,nA (fun sg=>h2 I (xP cF I I (.tail _ (.tail _ (.tail _ (.head _)))) q_e2 (Y I))) (d6 (fun sg=>h2 I (xP cF I I (.tail _ (.tail _ (.tail _ (.head _)))) q_e2 (Y I))))⟩,
   ⟨⟨[⟨2,fun _=>tV (aj b 0),none⟩],_,0,0,I,⟨(fun _=>I),Q⟩,I,I,I,I,I,fun _ sg _ _=>h2 I (lA 1 uC I I I)⟩,
   ⟨⟨[⟨30,fun _=>tV (aj b 1),some 4⟩,⟨27,fun _=>V aC e1,some 1⟩],_,I,⟨(fun _=>I),(fun _=>I),Q⟩,I,I,I,fun sg=>bB I (EffOK.fr1 (cZ cF I (qI xB) I (Y I) (Y I)))⟩,
   Q⟩⟩⟩⟩⟩⟩ (fun sg=>?_)
  refine(show RG _ _ _ _ [_,_,_,_] _ from ?_);exact bz 2 uB I<|bX cF xA I<|bG<|aG I<|d (bm (x:=(aS.mk ({root with L:=e1}:aS).Tag ({root with L:=e1}:aS).L e2 ({root with L:=e1}:aS).Col ({root with L:=e1}:aS).Value)) fP I I bZ (.head _) (Y I))<|d (aW (r:=bg) (ys:=[(aS.mk ({root with L:=e1}:aS).Tag ({root with L:=e1}:aS).L e2 ({root with L:=e1}:aS).Col ({root with L:=e1}:aS).Value)]) (xs:=[.tmp 33]) o7 fP I I I I I ⟨(Y I),Q⟩)<|cU<|ck h fun l2 q_l2 h=>n6 fP I I I I o7 I I (Y I) (Y I) q_l2 fun l3 c1=>d (bV (y:=(⟨l2⟩:ca)) ce Dy dD (⟨_,_,_,_,_,I,FV,I,(kS (Y I)),I⟩))<|gS<|bX ce al I<|aP 4 I<|dh<|aI<|aI<|aI<|so h▸oe I ce I I I
 ·obtain⟨A,h⟩:=h
  refine dq A I<|aF<|ai<|aG I<|eM om ce I (dv A)<|aT ce dD I fun b3=>gJ I<|bX ce al I<|aP 8 I<|bG<|aF ?_;refine aL<|a8 I<|cN ce I<|ck h fun r q_r h=>uO [Z bg 106 l1 c out] _ I NO (Md l1 c _ _ q_r) ⟨(sQ (Y I)),(Y I),Q⟩ I fun i1=>?_;refine(show RG _ _ _ _ [_,_,_,_] ((19,tO bg (i1.h 0).1 (i1.h 0).2 r)::_)from ?_);refine bk I<|aL<|a8 I<|a8 I<|d (fJ o7 (kS (Y I)))<|d (j9 (Y I) hI)<|ck h fun e3 q_e3 h=>d (kq xa cF (.tail _ (.tail _ (.tail _ (.head _)))) (Y I) (Y I) q_e3)<|ma<|ck h fun ar q_ar h=>Gw cF I q_e3 (so q_ar) (Y I) (Y I)<|bu<|db A hN I<|kO<|kO<|kO ?_;exact aM (aE (ih (i+1) r (i1.h 0).1 (i1.h 0).2 ar ⟨cW A,h⟩) (be I))

def A8 root l{R}(h:rM root l=some R):cw aH 175 [V bg root,fO (aa) l] (tT [V aa R.1,aO R.2]):=by
 refine cX Tryz.func175 I<|aU<|cY I<|aT ce dD I fun b=>bJ<|bG<|aZ<|a8 I<|cu om I<|d (bt hI)<|bG<|ai<|aQ (k:=11) I fun hN=>bq ?_;refine aE (ft (aw:=fun ls i x=>(l.drop i=ls)/\pT root l ls x=some R) (Of:=fun _ i x=>[bx aa 62 b x]) (Gf:=fun _ i x=>[(1,fO (aa) l),(2,bb bg root),(4,tV (aj b 0)),(11,fO (aa) l),(12,jf l),(13,aO (i:Int))]) (fun i x h=>?_) (fun e tl ih i x h=>?_) l 0 mn ⟨I,h⟩) (be I)
 ·obtain⟨A,h⟩:=h
  refine dr A I<|av<|aU<|cN fP I<|a8 I<|eD h NV (Jv _ _) (dc I) fun r h=>aT ce dD I fun b1=>bX ce al I<|aP 9 I<|bG ?_;refine aZ<|cN ce I<|eD h Kc (A5 _) (dc I) fun r1 h=>bk I<|aG I<|ic I<|cE h I (fun h=>?_) (fun h=>?_)
  ·exact aU<|d (bV ce Dy dD I)<|a8 I<|bX ce al I<|aR I<|ah<|cQ 4 I<|so h▸j3 I I ⟨dY ce I I I,co I,Q⟩
  ·exact ip<|aU<|cN ce I<|bX ce al I<|ev<|cQ 4 I<|so h▸j3 I I ⟨dY ce I I I,co I,Q⟩
 ·obtain⟨A,h⟩:=h
  refine dq A I<|aF<|ai<|aU<|eM om ce I (dv A)<|aT ce dD I fun b2=>bX ce al I<|aP 7 I<|bG<|aU<|cN ce I ?_;refine eD h Kc (A5 _) (dc I) fun r2 h=>bk I<|aG I<|ic I<|cE h I (fun h=>?_) (fun h=>?_)
  ·exact aU<|d (bV ce Dy dD I)<|a8 I<|bX ce al I<|aR I<|cz<|ah<|cz<|cQ 4 I<|so h▸j3 I I ⟨dY ce I I I,co I,Q⟩
  ·refine bA<|db A hN I ?_;exact aM (aE (ih (i+1) x ⟨cW A,h⟩) (be I))

def E2 n{R}(h:vD n=some R):cw aH 142 [V bg n] (tT [V aa R.1,aO R.2]):=by
 exact cX Tryz.func142 I<|aU<|cY I<|aT ce dD I fun b=>bJ<|bG<|aU<|cN fP I<|eD h Ie (A8 _ _) ⟨(Y I),Nb,Q⟩ fun r h=>dx I I<|dx I I<|bX ce al I<|aP 2 I<|aR I<|so h▸j3 I I ⟨dY ce I I I,co I,Q⟩

def JE n{R}(h:lj n=some R):cw aH 176 [V bg n] (tT [V aa R.1,aO R.2]):=by
 exact cX Tryz.func176 I<|aU<|cY I<|aT ce dD I fun b=>bJ<|bG<|aU<|cN fP I<|eD h KI (E2 _) (dc I) fun r h=>dx I I<|dx I I<|bX ce al I<|aP 2 I<|aR I<|so h▸j3 I I ⟨dY ce I I I,co I,Q⟩

set_option maxHeartbeats 4000000 in
def Mg(b:Nat)(ix:OI) s group{R}(h:jm s group=some R):dB aH 177 [ia group,bb (rT (tV (aj b 0))) ()] (ci b s ix) (fun _:OI=>lE R) (fun _=>(ci b s ix)):=by
 refine dB.of Tryz.func177 I I I fun w0 S0=>?_;refine(show CG _ _ _ [bx (rH aq [(10,M (ix.h 0).1 (ix.h 0).2 s.out.Tables.length),(11,M (ix.h 1).1 (ix.h 1).2 s.out.Joins.length),(16,M (ix.h 2).1 (ix.h 2).2 s.out.Keys.length),(17,M (ix.h 3).1 (ix.h 3).2 s.out.Aggs.length),(18,M (ix.h 4).1 (ix.h 4).2 s.out.Items.length),(22,M (ix.h 5).1 (ix.h 5).2 s.kinds.length),(23,M (ix.h 6).1 (ix.h 6).2 s.groups.length),(19,ak (ix.h 7).2),(20,ak (ix.h 8).2),(21,ak (ix.h 9).2)]) 127 b s,Z aC 3 (ix.h 0).1 (ix.h 0).2 s.out.Tables,Z aD 71 (ix.h 1).1 (ix.h 1).2 s.out.Joins,Z aC 3 (ix.h 2).1 (ix.h 2).2 s.out.Keys,Z aN 73 (ix.h 3).1 (ix.h 3).2 s.out.Aggs,Z aa 62 (ix.h 4).1 (ix.h 4).2 s.out.Items,Z aC 3 (ix.h 5).1 (ix.h 5).2 s.kinds,Z aC 3 (ix.h 6).1 (ix.h 6).2 s.groups,bj ib cR (ix.h 7).2 none (ix.oss 0) s.called,bj dj cR (ix.h 8).2 none (ix.oss 1) s.alone,da (fun y:Int=>aO y) gb (ix.h 9).2 s.behind] _ from ?_);refine aU<|ov aC<|bG<|aZ<|a8 I<|cE h I (fun h=>?_) (fun h=>?_)
 ·exact aU<|d (nJ BF (Y I))<|d (bo (Y I))<|bz 23 rJ I<|d (dA gc I (.head _) (.tail _ (.tail _ (.tail _ (.tail _ (.tail _ (.tail _ (.tail _ (.head _)))))))) (Y I))<|aR I<|ah<|je 3 I<|so h▸de I kT I I (fun _ _ h=>h)
 ·exact ip<|aU<|d (nJ BF (Y I))<|d (bo (Y I))<|bz 22 oL I<|d (dA gc I (.head _) (.tail _ (.tail _ (.tail _ (.tail _ (.tail _ (.tail _ (.head _))))))) (Y I))<|aR I<|je 3 I<|so h▸de I kT I I (fun _ _ h=>h)

set_option maxHeartbeats 4000000 in
def HY(b:Nat)(ix:OI) s n{R}(h:li s n=some R):dB aH 141 [tV (aj b 0),V dS n] (ci b s ix) (fun _:OI=>tT [aO R.1,aO R.2]) (fun _=>(ci b s ix)):=by
 refine dB.of Tryz.func141 I I I fun w0 S0=>?_;refine(show CG _ _ _ [bx (rH aq [(10,M (ix.h 0).1 (ix.h 0).2 s.out.Tables.length),(11,M (ix.h 1).1 (ix.h 1).2 s.out.Joins.length),(16,M (ix.h 2).1 (ix.h 2).2 s.out.Keys.length),(17,M (ix.h 3).1 (ix.h 3).2 s.out.Aggs.length),(18,M (ix.h 4).1 (ix.h 4).2 s.out.Items.length),(22,M (ix.h 5).1 (ix.h 5).2 s.kinds.length),(23,M (ix.h 6).1 (ix.h 6).2 s.groups.length),(19,ak (ix.h 7).2),(20,ak (ix.h 8).2),(21,ak (ix.h 9).2)]) 127 b s,Z aC 3 (ix.h 0).1 (ix.h 0).2 s.out.Tables,Z aD 71 (ix.h 1).1 (ix.h 1).2 s.out.Joins,Z aC 3 (ix.h 2).1 (ix.h 2).2 s.out.Keys,Z aN 73 (ix.h 3).1 (ix.h 3).2 s.out.Aggs,Z aa 62 (ix.h 4).1 (ix.h 4).2 s.out.Items,Z aC 3 (ix.h 5).1 (ix.h 5).2 s.kinds,Z aC 3 (ix.h 6).1 (ix.h 6).2 s.groups,bj ib cR (ix.h 7).2 none (ix.oss 0) s.called,bj dj cR (ix.h 8).2 none (ix.oss 1) s.alone,da (fun y:Int=>aO y) gb (ix.h 9).2 s.behind] _ from ?_);refine aU<|cY I<|bJ<|bJ<|bG<|aZ<|bN HG vw j5 I<|d (wX (Y I) hS)<|cE h I (fun h=>?_) (fun h=>?_)
 ·refine aF ?_
  refine fX (ts:=[_,_,_,_,_,_,_,_,_,_,_]) mixed I I
   ⟨iQ I I,
   ⟨gH 13 0 I I (bo (Y I)),
   ⟨gH 14 1 I I (lA 21 EY I I I),
   ⟨gH 15 2 I I (kp Kx I (.head _) (Y I)),
   ⟨rp 3 I I (o9 u0 I I),
   ⟨ij 16 3 17 4 I I I (B0 (γ:=fun y:Int=>V aC y) (z:=(0:Int)) Tryz.underlying125 M6 OT (fun S=>⟨_,I,(fun _=>I) S⟩) (.tail _ (.tail _ (.tail _ (.tail _ (.tail _ (.tail _ (.tail _ (.tail _ (.tail _ (.tail _ (.head _))))))))))) (Y I) (Hv (p:=(n.Table,n.Name)) I (fun _ _ h=>M7 h) (Y I))),
   ⟨gH 18 5 I I (fh I),
   ⟨gH 12 6 I I (ro I I),
   ⟨gH 12 6 I I (ro I I),
   ⟨gH 19 7 I I (wA I),
   ⟨gH 20 8 I I (wA I),
   Q⟩⟩⟩⟩⟩⟩⟩⟩⟩⟩⟩ ?_
  refine av<|aZ<|a8 I<|d (iz (Y I))<|cE h I (fun h=>?_) (fun h=>?_)
  ·exact aU<|bJ<|ev<|ah<|ah<|so h▸fe (ts:=[aO 0,aO 222]) (rvs:=[.tmp 4,.tmp 5]) I I ⟨co I,co I,Q⟩ kT I I
  ·exact ip<|aG I<|gJ I<|ev<|ah<|so h▸fe (ts:=[aO ((gK s.behind (n.Table,n.Name)).getD (0:Int)),aO 0]) (rvs:=[.tmp 4,.tmp 5]) I I ⟨co I,co I,Q⟩ kT I I
 ·refine ip<|aF<|aF ?_
  refine fX (ts:=[_,_,_,_,_,_,_,_]) mixed I I
   ⟨iQ I I,
   ⟨gH 24 0 I I (bo (Y I)),
   ⟨gH 25 1 I I (lA 20 A3 I I I),
   ⟨gH 26 2 I I (kp BE I (.head _) (Y I)),
   ⟨rp 3 I I (oo HF vv I I),
   ⟨mQ 4 j5 I I,
   ⟨ij 27 3 29 5 I I I (Dr Tryz.underlying124 (uo kx) Mw (.tail _ (.tail _ (.tail _ (.tail _ (.tail _ (.tail _ (.tail _ (.tail _ (.tail _ (.head _)))))))))) (Y I) (Hu (Y I))),
   ⟨gH 30 6 I I (wA I),
   Q⟩⟩⟩⟩⟩⟩⟩⟩ ?_
  refine av<|aG I<|cu eu I<|bG<|ai<|aU<|eN I<|bk I<|m3 h I (fun h=>?_) (fun h=>?_)
  ·exact aU<|bJ<|ev<|cz<|so h▸fe (ts:=[aO 0,aO 222]) (rvs:=[.tmp 4,.tmp 5]) I I ⟨co I,co I,Q⟩ kT I I
  ·refine aU<|eN I<|bk I<|m3 h I (fun h=>?_) (fun h=>?_)
   ·exact aG I<|ck h fun e q_e h=>d (eL eu cF I (Y I) hI q_e)<|cN cF I<|gJ I<|ev<|cz<|so h▸fe (ts:=[aO e,aO 0]) (rvs:=[.tmp 4,.tmp 5]) I I ⟨co I,co I,Q⟩ kT I I
   ·exact bA<|bl<|av<|aU<|bJ<|ev<|so h▸fe (ts:=[aO 0,aO 223]) (rvs:=[.tmp 4,.tmp 5]) I I ⟨co I,co I,Q⟩ kT I I

end Go.Proofs.YthbdkceckjihgaaGreatDoor

