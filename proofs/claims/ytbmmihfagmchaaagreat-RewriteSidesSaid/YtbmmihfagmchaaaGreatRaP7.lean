/- db of this claim: P7. -/
import Derived.Test.YtbmmihfagmchaaaGreatRaT
import Derived.Test.YtbmmihfagmchaaaGreatRaP6
set_option linter.all false
namespace Go.Proofs.YtbmmihfagmchaaaGreat
open Go
set_option maxRecDepth 100000

def Gh l{R}(h:sZ l=some R):cj bf 16 [X aE l] (tT [jT R.1,bX R.2]):=by
 refine de Tryz.func16 J<|T<|cA J<|gb ce<|cx<|bO<|T<|bn cV J<|da h Gy (zP _) (bQ J) fun r h=>bg J<|bM J J<|bM J J<|bM J J<|f9 J<|f9 J<|aP J<|aF<|aF ?_;refine aC<|bg J<|K (fV (D J))<|cw h J (fun h=>?_) (fun h=>?_)
 ·exact T<|gb ce<|dh<|ak<|so h▸dE J J J
 ·exact gg<|aW J<|K (wN (D J))<|bw iX wY mN J<|bg J<|cq h fun e q_e h=>ej oy dJ J q_e<|mM h Dh (xd _) (bQ J) fun r1 h l1 c=>f9 J<|dh<|kx<|dz 2 J<|dz 22 J<|iG 2 J<|aH<|so h▸dE J J J

def Gm{rec__:Option (List (Int×(ay->Bool->Option (ay×Int))))}(hr__: ∀{R:(List (Int×(ay->Bool->Option (ay×Int))))},rec__=some R->cj bf 65 [] (B5 (fun y:(ay->Bool->Option (ay×Int))=>xR bf A5 A6 (fun(x:ay×Bool)=>y x.1 x.2)) nR R)) t deep{R}(h:oe rec__ t deep=some R):cj bf 122 [X al t,ec deep] (tT [X al R.1,bX R.2]):=by
 refine de Tryz.func122 J<|T<|cA J<|av bo dn J fun b=>cx<|bO<|T<|bw iO eH pf J<|cq h fun e q_e h=>K (bj kb bo J (D J) hI q_e)<|bn bo J<|av bo dn J fun b1=>aR bo aa J<|aB 6 J<|bO<|T<|bw iO eH pf J ?_;refine cq h fun e1 q_e1 h=>K (bj kb bo J (D J) hI q_e1)<|bw sy mJ cV J<|da h Je (Gh _) (bQ J) fun r h=>bg J<|bM J J<|bM J J<|f9 J<|aP J<|T<|k6 fd c9 J<|bw jS eq aL J<|bg J<|cM ed J<|k6 fd c9 J<|bw w8 qQ Ci J<|cq h fun r1 q_r1 h=>?_;refine K (cg HB (CX _ _ _ q_r1) ⟨(D J),(D J),(D J),aX⟩)<|av (r:=A7) (x:=(List.replicate 3 [])) wF (fun _=>rM (r:=rd) 3 (fun _=>⟨none,0,J,iZ _,ky _,.inl J⟩) _) J fun b2=>aR wF aa J<|aB 9 J<|bO<|ba<|cq h fun e2 q_e2 h=>K (gD nj dC J (D J) hI q_e2)<|bn dC J<|cM gx J<|cq h fun e3 q_e3 h=>K (gD nj dC J (D J) hI q_e3)<|bn dC J<|cM gx J<|K (eh (D J) (D J))<|cb J<|cw h J (fun h=>?_) (fun h=>?_)
 ·exact T<|bn bo J<|aR bo aa J<|dh<|ak<|aG 4 J<|so h▸bv J J ⟨bb bo J J J,aS J,aX⟩
 ·refine gg<|T<|bE false al 87<|K (bF pl)<|bO<|ba<|bw iO eH pf J<|cM kb J<|K (bS hI)<|bO<|am<|br (k:=49) J fun hN=>bP ?_;refine aN (j8 (hg:=fun ls i parts l c x=>(e.parts.drop i=ls)/\kK rec__ t deep e r1 ls i parts x=some R) (Of:=fun _ i parts l c x=>[dX al 87 l c parts,bx al 87 b x]) (Gf:=fun _ i parts l c x=>[(1,ec deep),(2,bp al t),(4,tV (aq b 0)),(6,bp al e),(9,bp A7 r1),(10,n9 l c parts),(49,eE (al) e.parts),(50,f6 e.parts),(51,bX (i:Int))]) (fun i parts l c x h=>?_) (fun e4 tl ih i parts l c x h=>?_) e.parts 0 zd none 0 rW ⟨J,h⟩) (bk J)
  ·obtain⟨I,h⟩:=h
   refine dt I J<|au<|T<|k6 fd c9 J<|bw w8 qQ Ci J<|k6 fd c9 J<|bw jS eq aL J<|K (bz (y:=(⟨(2:Int),(0:Int),(0:Int),(0:Int),[],e.root.Left,e.root.Cond,[],[],[],[],(0:Int)⟩:an)) dK yE fP (⟨_,_,_,_,_,J,jf,J,hI,⟨_,_,_,_,_,J,ul,J,(D J),⟨_,_,_,_,_,J,je,J,(D J),J⟩⟩⟩))<|bg J<|fi ?_;refine jp 10 J<|jp 81 J<|da h Di (uO _ _) ⟨(D J),(i7 (D J)),aX⟩ fun r2 h=>bg J<|bM J J<|bM J J<|av bo dn J fun b3=>aR bo aa J<|aB 15 J<|aP J<|ba<|bg J<|K (fV (D J))<|cw h J (fun h=>?_) (fun h=>?_)
   ·exact T<|bn bo J<|aU<|aR bo aa J<|dh<|ak<|aG 4 J<|aH<|so h▸bv J J ⟨bb bo J J J,aS J,aX⟩
   ·exact gg<|T<|bn bo J<|cq h fun e5 q_e5 h=>K (gD nj dC J (D J) hI q_e5)<|bn dC J<|da h Fh (C2 hr__ _ _ _) (bQ J) fun r3 h=>bM J J<|bM J J<|da h Dk (xg _ _) (bQ J) fun r4 h=>bM J J<|bM J J<|aU<|aR bo aa J<|bt J<|aG 4 J<|aH<|so h▸bv J J ⟨bb bo J J J,aS J,aX⟩
  ·obtain⟨I,h⟩:=h
   refine dr I J<|aF<|am<|aW J<|ej kb bo J (dm I)<|av bo dn J fun b4=>f9 J<|aR bo aa J<|aB 12 J<|bO<|aF ?_;refine cq h fun e6 q_e6 h=>cq h fun r5 q_r5 h=>?_
   refine gw 11 [tc (X al e4),tc (bX (i:Int)),tc (bp rd e6),tc (eE (hf) e6),tc (ec deep),tc (tT [X al r5.1,ec r5.2]),tc (tT [X al r5.1,ec r5.2]),tc (X al r5.1),tc (ec r5.2),([9],fun s=>tV (aq ((s.getD 0 nh).h 0).2 0)),tc (qF)] [false,false,false,false,false,false,false,false,false,true,true] [fun _=>[dX al 87 l c parts,bx al 87 b x],fun sg=>[bx al 87 ((sg 9).h 0).2 rW,dX al 87 l c parts,bx al 87 b x],fun sg=>[bx al 87 ((sg 9).h 0).2 r5.1,dX al 87 l c parts,bx al 87 b x]] J mixed J J J J J
    ⟨⟨[⟨12,fun _=>bp al e4,none⟩],_,0,1,J,⟨(fun _=>J),aX⟩,J,J,J,J,J,fun _ sg _ _=>ac J (lc bo J J)⟩,
    ⟨⟨[⟨11,fun _=>X ce (i:Int),none⟩],_,0,1,J,⟨(fun _=>J),aX⟩,J,J,J,J,J,fun _ sg _ _=>ac J (jJ J)⟩,
    ⟨⟨[⟨9,fun _=>bp A7 r1,none⟩,⟨58,fun _=>X ce (i:Int),some 1⟩],_,0,1,J,⟨(fun _=>J),(fun _=>J),aX⟩,J,J,J,J,J,fun _ sg _ _=>ac J (gD nj dC J (D J) (D J) q_e6)⟩,
    ⟨⟨[⟨59,fun _=>bp rd e6,some 2⟩],_,0,1,J,⟨(fun _=>J),aX⟩,J,J,J,J,J,fun _ sg _ _=>ac J (lc dC J J)⟩,
    ⟨⟨[⟨1,fun _=>X rB deep,none⟩],_,0,1,J,⟨(fun _=>J),aX⟩,J,J,J,J,J,fun _ sg _ _=>ac J (jJ J)⟩,
    ⟨⟨[⟨57,fun _=>X al e4,some 0⟩,⟨60,fun _=>X rd e6,some 3⟩,⟨61,fun _=>X rB deep,some 4⟩],_,0,1,J,⟨(fun _=>J),(fun _=>J),(fun _=>J),aX⟩,J,J,J,J,J,fun _ sg _ _=>ac J (cg Fh (C2 hr__ _ _ _ q_r5) ⟨(D J),(D J),(D J),aX⟩)⟩,
    ⟨⟨[⟨62,fun _=>tT [X al r5.1,X rB r5.2],some 5⟩],_,0,1,J,⟨(fun _=>J),aX⟩,J,J,J,J,J,fun _ sg _ _=>ac J (jJ J)⟩,
    ⟨⟨[⟨56,fun _=>tT [X al r5.1,X rB r5.2],some 6⟩],_,0,1,J,⟨(fun _=>J),aX⟩,J,J,J,J,J,fun _ sg _ _=>ac J (vc J J)⟩,
    ⟨⟨[⟨56,fun _=>tT [X al r5.1,X rB r5.2],some 6⟩],_,0,2,J,⟨(fun _=>J),aX⟩,J,J,J,J,J,fun _ sg _ _=>ac J (vc J J)⟩,
    ⟨⟨[],_,J,aX,J,J,J,fun sg=>ck J (iF bo dn)⟩,
    ⟨⟨[⟨13,fun sg=>tV (aq ((sg 9).h 0).2 0),some 9⟩,⟨63,fun _=>X al r5.1,some 7⟩],_,J,⟨(fun _=>J),(fun _=>J),aX⟩,J,J,J,fun sg=>ck J (eQ bo J (lZ aa) J (D J) (D J))⟩,
    aX⟩⟩⟩⟩⟩⟩⟩⟩⟩⟩⟩ (fun sg=>?_)
   refine(show RG _ _ _ _ [_,_,_] _ from ?_);refine aB 13 J<|aP J<|ba<|bg J<|K (fV (D J))<|cw h J (fun h=>?_) (fun h=>?_)
   ·exact T<|bn bo J<|aU<|aR bo aa J<|dh<|ak<|cZ<|ak<|cZ<|aG 4 J<|aH<|so h▸bv J J ⟨bb bo J J J,aS J,aX⟩
   ·refine gg<|aC<|bg J<|bn bo J<|K (aQ (r:=al) (ys:=[r5.1]) (xs:=[.tmp 69]) kb bo J J J J J ⟨(D J),aX⟩)<|cq h fun parts1 q_parts1 h=>dd bo J J J J kb J J (D J) (D J) q_parts1 fun l1 c1=>f9 J<|bc<|cP I hN J ?_;exact aY (aN (ih (i+1) parts1 l1 c1 x ⟨cI I,h⟩) (bk J))

def EM s f{R}(h:fx s f=some R):cj bf 102 [eE (ai) s,(jW bf DK qB (fun(x:aj)=>f x))] (bX R):=by
 refine de Tryz.func102 J<|T<|cx<|bO<|ba<|bg J<|cM hM J<|K (bS hI)<|bO<|am<|br (k:=6) J fun hN=>bP ?_;refine aN (iw (hg:=fun ls i=>(s.drop i=ls)/\dA f ls i=some R) (Of:=fun _ i=>[]) (Gf:=fun _ i=>[(0,eE (ai) s),(1,(jW bf DK qB (fun(x:aj)=>f x))),(7,f6 s),(8,bX (i:Int))]) (fun i h=>?_) (fun e tl ih i h=>?_) s 0 ⟨J,h⟩) (bk J)
 ·obtain⟨I,h⟩:=h
  exact dt I J<|au<|T<|dh<|so h▸bl J J
 ·obtain⟨I,h⟩:=h
  refine dr I J<|aF<|am<|aW J<|aP J<|aW J<|bg J<|bg J<|tW hM cO J (dm I) ?_;refine bn cO J<|cq h fun r q_r h=>K (mZ (args:=DK) (res:=DH) (f:=(fun(x:aj)=>f x)) (x:=((e):aj)) (D J) q_r ⟨(D J),aX⟩)<|cw h J (fun h=>?_) (fun h=>?_)
  ·exact aW J<|bt J<|cZ<|ak<|cZ<|so h▸bl J J
  ·refine bH<|cP I hN J ?_;exact aY (aN (ih (i+1) ⟨cI I,h⟩) (bk J))

def F3 s f{R}(h:eU s f=some R):cj bf 72 [eE (ai) s,(jW bf DK qB (fun(x:aj)=>f x))] (ec R):=by
 exact de Tryz.func72 J<|T<|cu<|bO<|aW J<|bg J<|da h H8 (EM _ _) (bQ J) fun r h=>K (dB (D J) hI)<|bt J<|so h▸bl J J

def F2 n{R}(h:s3 n=some R):cj bf 73 [X ai n] (ec R):=by
 exact de Tryz.func73 J<|T<|cA J<|cu<|bO<|T<|bw fW cJ bR J<|da h Hu (CQ _) (bQ J) fun r h=>bt J<|so h▸bl J J

def zO e{R}(h:qa e=some R):cj bf 46 [X hf e] (ec R):=by
 refine de Tryz.func46 J<|T<|cA J<|cu<|bO<|T<|bn aL J<|da h BG (sA _) (bQ J) fun r h=>cb J<|bg J<|cq h fun t q_t h=>aI J (dv bZ bL J J)<|aI J (du ee J J) ?_
 obtain⟨r1,h1t,h0t⟩:=og q_t
 have q_r1g:=fun V=>(h1t V).1
 exact aI J (fun Z=>cg IX (F3 _ _ (q_r1g Z)) ⟨(ca J Z),(GM IW fun x y h=>F2 _ h),aX⟩)<|aI J (pt J)<|K (ef (D J) (fun V=>(ca J V)) (fun V=>(h1t V).2) h0t)<|bt J<|so h▸bl J J

def Hi{rec__:Option (List (Int×(ay->Bool->Option (ay×Int))))}(hr__: ∀{R:(List (Int×(ay->Bool->Option (ay×Int))))},rec__=some R->cj bf 65 [] (B5 (fun y:(ay->Bool->Option (ay×Int))=>xR bf A5 A6 (fun(x:ay×Bool)=>y x.1 x.2)) nR R)) t deep{R}(h:li rec__ t deep=some R):cj bf 86 [X al t,ec deep] (tT [X al R.1,bX R.2]):=by
 refine de Tryz.func86 J<|T<|cA J<|av bo dn J fun b=>cx<|bO<|aF<|cq h fun e q_e h=>?_
 refine y0 10 [tc (bp ap t.root),tc (bp hf t.root.Cond),tc (X hf t.root.Cond),tc (bp vk t.parts),tc (eE (al) t.parts),tc (bp al e),tc (X al e),([7],fun s=>tV (aq ((s.getD 0 nh).h 0).2 0)),([8],fun s=>tV (aq ((s.getD 0 nh).h 0).2 0)),tc (qF)] [false,false,false,false,false,false,false,true,true,true] [([],fun _=>[bx al 87 b rW]),([7],fun sg=>[bx hf 27 ((sg 7).h 0).2 fQ,bx al 87 b rW]),([8],fun sg=>[bx al 87 ((sg 8).h 0).2 rW,bx al 87 b rW]),([7,8],fun sg=>[bx al 87 ((sg 8).h 0).2 rW,bx hf 27 ((sg 7).h 0).2 fQ,bx al 87 b rW]),([7,8,9],fun sg=>[bx hf 27 ((sg 7).h 0).2 t.root.Cond,bx al 87 ((sg 8).h 0).2 rW,bx al 87 b rW])] (fun _=>J) mixed J J J J
  ⟨⟨[⟨2,fun _=>bp al t,none⟩],_,[[],[7],[8],[7,8]],J,⟨(fun _=>J),aX⟩,J,J,J,J,J,⟨fun sg=>ac J (jK fd c9 J J),fun sg=>ac J (jK fd c9 J J),fun sg=>ac J (jK fd c9 J J),fun sg=>ac J (jK fd c9 J J),aX⟩⟩,
  ⟨⟨[⟨11,fun _=>bp ap t.root,some 0⟩],_,[[],[7],[8],[7,8]],J,⟨(fun _=>J),aX⟩,J,J,J,J,J,⟨fun sg=>ac J (jK jS eq J J),fun sg=>ac J (jK jS eq J J),fun sg=>ac J (jK jS eq J J),fun sg=>ac J (jK jS eq J J),aX⟩⟩,
  ⟨⟨[⟨12,fun _=>bp hf t.root.Cond,some 1⟩],_,[[],[7],[8],[7,8]],J,⟨(fun _=>J),aX⟩,J,J,J,J,J,⟨fun sg=>ac J (lc aL J J),fun sg=>ac J (lc aL J J),fun sg=>ac J (lc aL J J),fun sg=>ac J (lc aL J J),aX⟩⟩,
  ⟨⟨[⟨2,fun _=>bp al t,none⟩],_,[[],[7],[8],[7,8],[7,8,9]],J,⟨(fun _=>J),aX⟩,J,J,J,J,J,⟨fun sg=>ac J (jK iO eH J J),fun sg=>ac J (jK iO eH J J),fun sg=>ac J (jK iO eH J J),fun sg=>ac J (jK iO eH J J),fun sg=>ac J (jK iO eH J J),aX⟩⟩,
  ⟨⟨[⟨14,fun _=>bp vk t.parts,some 3⟩],_,[[],[7],[8],[7,8],[7,8,9]],J,⟨(fun _=>J),aX⟩,J,J,J,J,J,⟨fun sg=>ac J (lc pf J J),fun sg=>ac J (lc pf J J),fun sg=>ac J (lc pf J J),fun sg=>ac J (lc pf J J),fun sg=>ac J (lc pf J J),aX⟩⟩,
  ⟨⟨[⟨15,fun _=>X vk t.parts,some 4⟩],_,[[],[7],[8],[7,8],[7,8,9]],J,⟨(fun _=>J),aX⟩,J,J,J,J,J,⟨fun sg=>ac J (bj kb bo J (D J) hI q_e),fun sg=>ac J (bj kb bo J (D J) hI q_e),fun sg=>ac J (bj kb bo J (D J) hI q_e),fun sg=>ac J (bj kb bo J (D J) hI q_e),fun sg=>ac J (bj kb bo J (D J) hI q_e),aX⟩⟩,
  ⟨⟨[⟨16,fun _=>bp al e,some 5⟩],_,[[],[7],[8],[7,8],[7,8,9]],J,⟨(fun _=>J),aX⟩,J,J,J,J,J,⟨fun sg=>ac J (lc bo J J),fun sg=>ac J (lc bo J J),fun sg=>ac J (lc bo J J),fun sg=>ac J (lc bo J J),fun sg=>ac J (lc bo J J),aX⟩⟩,
  ⟨⟨[],_,[([],[7]),([8],[7,8])],J,aX,J,J,J,J,J,⟨fun sg=>ck J (iF aL bU),fun sg=>ck J (EffOK.post_imp (post:=fun x__=>(fun(sg:Nat->OI)=>[bx hf 27 ((sg 7).h 0).2 fQ,bx al 87 ((sg 8).h 0).2 rW,bx al 87 b rW]) (y7 sg 7 x__)) (iF aL bU) (fun h=>cF.pick [1,0,2] J h)),aX⟩⟩,
  ⟨⟨[],_,[([],[8]),([7],[7,8])],J,aX,J,J,J,J,J,⟨fun sg=>ck J (iF bo dn),fun sg=>ck J (iF bo dn),aX⟩⟩,
  ⟨⟨[⟨6,fun sg=>tV (aq ((sg 7).h 0).2 0),some 7⟩,⟨13,fun _=>X hf t.root.Cond,some 2⟩],_,[([7,8],[7,8,9])],J,⟨(fun _=>J),(fun _=>J),aX⟩,J,J,J,J,J,⟨fun sg=>ck J (EffOK.fr1 (eQ aL J (lZ aa) J (D J) (D J))),aX⟩⟩,
  aX⟩⟩⟩⟩⟩⟩⟩⟩⟩⟩ (fun sg=>?_)
 refine(show RG _ _ _ _ [_,_,_] _ from ?_);refine aB 6 J<|aR bo aa J<|aB 7 J<|bO<|T<|bn aL J<|da h Gx (zO _) (bQ J) fun r h=>aP J<|aF<|am<|aF<|cq h fun t1 q_t1 h=>?_
 obtain⟨e1,h1t1,h0t1⟩:=og q_t1
 have q_e1g:=fun V=>(h1t1 V).1
 obtain⟨r1,h1t1⟩:=Ij (fun V=>(h1t1 V).2)
 have q_r1g:=fun V=>(h1t1 V).1
 refine eC (ts:=[_,_,_,_,_,_,_,_,_,_,_,_,_,_]) mixed J J
  ⟨lV 6 J J (jK bZ bL J J),
  ⟨ga 0 ee J J,
  ⟨dg 22 1 J J (GG hM J),
  ⟨dg 23 2 J J (GJ J),
  ⟨dg 24 3 J J (jJ J),
  ⟨nk 6 25 4 J J J (bN J J J J (fun Z=>jK bZ bL J J)),
  ⟨ek 26 5 25 4 J J J (bN J J J J (fun Z=>d6 ee J J (ca J Z))),
  ⟨ek 27 6 25 4 J J J (bN J J J J (fun Z=>bj hM cO J (ca J Z) hI (q_e1g Z))),
  ⟨ek 28 7 25 4 J J J (bN J J J J (fun Z=>fE oR J ft J (ca J Z))),
  ⟨ek 29 8 25 4 J J J (bN J J J J (fun Z=>d6 jM J J (ca J Z))),
  ⟨zes 25 4 J J (bN J J J J (fun Z=>cg H3 (EI _ (q_r1g Z)) ⟨hB,aX⟩)),
  ⟨sN 30 9 31 10 25 4 J J J J (bN J J J J (fun Z=>p4 zT (ca J Z) (ca J Z))),
  ⟨eI 25 4 32 11 J J J (ef (D J) (fun V=>(ca J V)) (fun V=>(h1t1 V).2) h0t1),
  ⟨dg 33 12 J J (re J),
  aX⟩⟩⟩⟩⟩⟩⟩⟩⟩⟩⟩⟩⟩⟩ ?_
 refine au<|jH h J (fun h=>?_) (fun h=>?_)
 ·exact T<|bn bo J<|aR bo aa J<|dh<|cZ<|aG 4 J<|so h▸bv J J ⟨bb bo J J J,aS J,aX⟩
 ·refine T<|k6 fd c9 J<|bw kP er bR J<|cb J<|bg J<|aI J (cB J)<|dq J<|aP J<|jH h J (fun h=>?_) (fun h=>?_)
  ·refine T<|k6 fd c9 J<|bw jS eq aL J<|bn aL J<|K (aQ (r:=hf) (ys:=[e.root.Cond,t.root.Cond]) (xs:=[.tmp 46,.tmp 47]) gx aL J J J J J ⟨(D J),(D J),aX⟩)<|da h Fm (AI _) (bQ J) fun r2 h=>bg J<|bM J J<|bM J J<|av aL bU J fun b1=>aR aL aa J<|aB 9 J<|aP J<|ba<|bg J<|gk J<|bc ?_;refine au<|jH h J (fun h=>?_) (fun h=>?_)
   ·exact T<|bn bo J<|aR bo aa J<|dh<|ak<|cZ<|aG 4 J<|so h▸bv J J ⟨bb bo J J J,aS J,aX⟩
   ·refine gg<|aF<|cq h fun e2 q_e2 h=>cq h fun r3 q_r3 h=>cq h fun r4 q_r4 h=>?_
    refine jr 13 (ts:=[X hf r2.1,X ap (⟨(3:Int),(0:Int),(0:Int),(0:Int),[],false,r2.1,[],[],[],[],(0:Int)⟩:an),bp vk e.parts,eE (al) e.parts,bp al e2,X al e2,eE (al) ([e2]),tT [X al r3.1,ec r3.2],X al r3.1,ec r3.2,tT [X al r4.1,bX r4.2],X al r4.1,bX r4.2]) mixed J J J
     ⟨lV 9 J J (lc aL J J),
     ⟨dg 55 0 J J (bz (y:=(⟨(3:Int),(0:Int),(0:Int),(0:Int),[],false,r2.1,[],[],[],[],(0:Int)⟩:an)) dK yE fP (⟨_,_,_,_,_,J,jf,J,hI,⟨_,_,_,_,_,J,je,J,(D J),J⟩⟩)),
     ⟨lV 7 J J (jK iO eH J J),
     ⟨ga 2 pf J J,
     ⟨dg 58 3 J J (bj kb bo J (D J) hI q_e2),
     ⟨ga 4 bo J J,
     ⟨dg 60 5 J J (aQ (r:=al) (ys:=[e2]) (xs:=[.tmp 60]) kb bo J J J J J ⟨(D J),aX⟩),
     ⟨eI 56 1 61 6 J J J (cg Di (uO _ _ q_r3) ⟨(D J),(D J),aX⟩),
     ⟨dg 62 7 J J (vc J J),
     ⟨dg 62 7 J J (vc J J),
     ⟨eI 63 8 64 9 J J J (cg Dk (xg _ _ q_r4) ⟨(D J),(D J),aX⟩),
     ⟨dg 65 10 J J (vc J J),
     ⟨dg 65 10 J J (vc J J),
     aX⟩⟩⟩⟩⟩⟩⟩⟩⟩⟩⟩⟩⟩ ?_
    exact aR bo aa J<|bt J<|cZ<|aG 4 J<|so h▸bv J J ⟨bb bo J J J,aS J,aX⟩
  ·refine T<|k6 fd c9 J<|bw kP er bR J<|cb J<|bg J<|aI J (cB J)<|dq J<|bg J<|cq h fun t2 q_t2 h=>aI J (dv fd c9 J J)<|aI J (fun Z=>fE jS J eq J (ca J Z))<|aI J (du aL J J) ?_
   obtain⟨r5,h1t2,h0t2⟩:=og q_t2
   have q_r5g:=fun V=>(h1t2 V).1
   refine aI J (fun Z=>cg Gx (zO _ (q_r5g Z)) ⟨(ca J Z),aX⟩)<|K (ef (D J) (fun V=>(ca J V)) (fun V=>(h1t2 V).2) h0t2)<|aP J<|jH h J (fun h=>?_) (fun h=>?_)
   ·exact T<|bn bo J<|bg J<|da h H2 (Gm hr__ _ _) (bQ J) fun r6 h=>bM J J<|bM J J<|aR bo aa J<|bt J<|cZ<|aG 4 J<|so h▸bv J J ⟨bb bo J J J,aS J,aX⟩
   ·exact bH<|aO<|au<|T<|bn bo J<|aR bo aa J<|dh<|aG 4 J<|so h▸bv J J ⟨bb bo J J J,aS J,aX⟩

def EH e{R}(h:nq e=some R):cj bf 123 [X hf e] (ec R):=by
 exact de Tryz.func123 J<|T<|cA J<|cu<|bO<|T<|bn aL J<|da h Gx (zO _) (bQ J) fun r h=>K (fV (D J))<|bt J<|so h▸bl J J

def C0(b:Nat)(l:Option Nat)(c:Nat) stack k{R}(h:lT stack k=some R):df bf 157 [bX k,tV (aq b 0)] [bx rV 22 b (aM l c stack.length),dX hf 27 l c stack] (fun i:OI=>eE (hf) R.1) (fun i=>[bx rV 22 b (aM (i.h 0).1 (i.h 0).2 R.2.length),dX hf 27 (i.h 0).1 (i.h 0).2 R.2]):=by
 refine df.of Tryz.func157 J J J fun w0 S0=>T<|gb (hf)<|bO<|T<|K (iu dC (.head _) (D J))<|K (iu dC (.head _) (D J))<|K (dD gx (.tail _ (.head _)) (D J))<|bg J<|K (cY (D J) (D J))<|cq h fun y q_y h=>K (lP gx aL J (.tail _ (.head _)) (D J) (D J) q_y)<|kX (.tail _ (.head _)) q_y fun hv=>aU<|cq h fun r q_r h=>pS [dX hf 27 l c stack] _ J Fn (Gn q_y q_r) ⟨(D J),aX⟩ J fun i=>?_;refine(show RG _ _ _ _ [_,_,_] _ from ?_);refine aP J<|T<|K (iu dC (.tail _ (.tail _ (.head _))) (D J))<|K (iu dC (.tail _ (.tail _ (.head _))) (D J))<|K (dD gx (.tail _ (.head _)) (D J))<|bg J<|K (cY (D J) (D J))<|cq h fun y1 q_y1 h=>K (kr gx aL J (.tail _ (.head _)) (D J) (D J) q_y1)<|aU<|sH q_y1<|cn<|cy dC J aa J (D J) (uH (D J))<|bO<|aW J<|aP J ?_;exact hJ<|aA<|kx<|dz 3 J<|dz 11 J<|dz 4 J<|dz 18 J<|iG 3 J<|aH<|bm<|bm<|so h▸j9 J (oi l c) J J (fun _ _ h=>h)

def Ew e do1{R}(h:m8 e do1=some R):cj bf 146 [X hf e,(jW bf DP DM (fun(x:aj×(List af))=>do1 x.1 x.2))] (tT [X hf R.1,bX R.2]):=by
 refine de Tryz.func146 J<|T<|cA J<|av aL bU J fun b=>cx<|bO<|u8<|T<|bE false hf 27<|av (x:=aM none 0 0) dC (fun _=>Cp) J fun b1=>bO<|T<|av aL bU J fun b2=>aB 7 J<|bO<|T<|K (yn (cts:=[tV (aq b1 0)]) (caps:=[.tmp 6]) ⟨(D J),aX⟩) ?_;refine aP J<|T<|cx<|bO<|aF<|u9<|au<|ba<|bw bZ bL ee J<|cM hM J<|K (bS hI)<|bO ?_;refine wq (hg:=fun bad stack l c=>iQ bad stack=some R) (Of:=fun bad stack l c=>[bx hf 27 b fQ,bx rV 22 b1 (aM l c stack.length),dX hf 27 l c stack]) (Gf:=fun bad stack l c=>[(4,tV (aq b 0)),(6,tV (aq b1 0)),(7,bp hf fQ),(9,bX bad)]) (fun bad stack l c h=>?_) (fun ae=>?_)
 ·skip
  refine au<|ba<|bg J<|gk J<|cw h J (fun h=>?_) (fun h=>?_)
  ·exact T<|bn aL J<|bg J<|aR aL aa J<|bt J<|ak<|mK<|aG 4 J<|aH<|aH<|so h▸bv J J ⟨bb aL J J J,aS J,aX⟩
  ·exact gg<|T<|K (iu dC (.tail _ (.head _)) (D J))<|cq h fun e1 q_e1 h=>K (bI gx aL (.tail _ (.tail _ (.head _))) (D J) hI q_e1)<|K (cD (r:=hf) (i:=(0:Int)) (foff:=0) aL J J bC J (.tail _ (.tail _ (.head _))) q_e1 (D J))<|aR aL aa J<|dh<|mK<|aG 4 J<|aH<|aH<|so h▸bv J J ⟨bb aL J J J,aS J,aX⟩
 ·skip
  refine br (k:=16) J fun hN=>bP<|cr<|cr<|dp ?_;refine aN (j8 (hg:=fun ls i bad1 stack1 l1 c1=>(e.Nodes.drop i=ls)/\iP do1 ls bad1 stack1=some R) (Of:=fun _ i bad1 stack1 l1 c1=>[bx hf 27 b fQ,bx rV 22 b1 (aM l1 c1 stack1.length),dX hf 27 l1 c1 stack1]) (Gf:=fun _ i bad1 stack1 l1 c1=>[(1,(jW bf DP DM (fun(x:aj×(List af))=>do1 x.1 x.2))),(4,tV (aq b 0)),(6,tV (aq b1 0)),(7,bp hf fQ),(8,tC 157 [tV (aq b1 0)]),(9,bX bad1),(16,eE (ai) e.Nodes),(17,f6 e.Nodes),(18,bX (i:Int))]) (fun i bad1 stack1 l1 c1 h=>?_) (fun e2 tl ih i bad1 stack1 l1 c1 h=>?_) e.Nodes 0 (0:Int) nS none 0 ⟨J,h⟩) (bk J)
  ·obtain⟨I,h⟩:=h
   refine dt I J ?_;exact bY (ae bad1 stack1 l1 c1 h) (bk J)
  ·obtain⟨I,h⟩:=h
   refine dr I J<|aF<|am<|T<|ej hM cO J (dm I)<|av cO dS J fun b3=>aR cO aa J<|aB 11 J<|bO<|aF<|cq h fun r q_r h=>cq h fun r1 q_r1 h=>?_;refine cq h fun r2 q_r2 h=>?_
   refine y0 13 [tc ((jW bf DP DM (fun(x:aj×(List af))=>do1 x.1 x.2))),tc (X ai e2),tc (tC 157 [tV (aq b1 0)]),tc (bp ce e2.Tag),tc (bX e2.Tag),tc (bX r),tc (eE (hf) r1.1),tc (tT [X hf r2.1,bX r2.2]),tc (tT [X hf r2.1,bX r2.2]),tc (X hf r2.1),tc (bX r2.2),([11],fun s=>tV (aq ((s.getD 0 nh).h 0).2 0)),tc (qF)] [false,false,false,false,false,false,true,false,false,false,false,true,true] [([],fun _=>[bx hf 27 b fQ,bx rV 22 b1 (aM l1 c1 stack1.length),dX hf 27 l1 c1 stack1]),([6],fun sg=>[bx rV 22 b1 (aM ((sg 6).h 0).1 ((sg 6).h 0).2 r1.2.length),dX hf 27 ((sg 6).h 0).1 ((sg 6).h 0).2 r1.2,bx hf 27 b fQ]),([11],fun sg=>[bx hf 27 ((sg 11).h 0).2 fQ,bx hf 27 b fQ,bx rV 22 b1 (aM l1 c1 stack1.length),dX hf 27 l1 c1 stack1]),([6,11],fun sg=>[bx hf 27 ((sg 11).h 0).2 fQ,bx rV 22 b1 (aM ((sg 6).h 0).1 ((sg 6).h 0).2 r1.2.length),dX hf 27 ((sg 6).h 0).1 ((sg 6).h 0).2 r1.2,bx hf 27 b fQ]),([6,11,12],fun sg=>[bx hf 27 ((sg 11).h 0).2 r2.1,bx rV 22 b1 (aM ((sg 6).h 0).1 ((sg 6).h 0).2 r1.2.length),dX hf 27 ((sg 6).h 0).1 ((sg 6).h 0).2 r1.2,bx hf 27 b fQ])] (fun _=>J) mixed J J J J
    ⟨⟨[⟨1,fun _=>(jW bf DQ DN (fun(x:aj×(List af))=>do1 x.1 x.2)),none⟩],_,[[],[6],[11],[6,11]],J,⟨(fun _=>J),aX⟩,J,J,J,J,J,⟨fun sg=>ac J (jJ J),fun sg=>ac J (jJ J),fun sg=>ac J (jJ J),fun sg=>ac J (jJ J),aX⟩⟩,
    ⟨⟨[⟨11,fun _=>bp ai e2,none⟩],_,[[],[6],[11],[6,11]],J,⟨(fun _=>J),aX⟩,J,J,J,J,J,⟨fun sg=>ac J (lc cO J J),fun sg=>ac J (lc cO J J),fun sg=>ac J (lc cO J J),fun sg=>ac J (lc cO J J),aX⟩⟩,
    ⟨⟨[⟨8,fun _=>tC 157 [tV (aq b1 0)],none⟩],_,[[],[11]],J,⟨(fun _=>J),aX⟩,J,J,J,J,J,⟨fun sg=>ac J (jJ J),fun sg=>ac J (jJ J),aX⟩⟩,
    ⟨⟨[⟨11,fun _=>bp ai e2,none⟩],_,[[],[11]],J,⟨(fun _=>J),aX⟩,J,J,J,J,J,⟨fun sg=>ac J (jK fW cJ J J),fun sg=>ac J (jK fW cJ J J),aX⟩⟩,
    ⟨⟨[⟨26,fun _=>bp ce e2.Tag,some 3⟩],_,[[],[11]],J,⟨(fun _=>J),aX⟩,J,J,J,J,J,⟨fun sg=>ac J (lc bR J J),fun sg=>ac J (lc bR J J),aX⟩⟩,
    ⟨⟨[⟨27,fun _=>X ce e2.Tag,some 4⟩],_,[[],[11]],J,⟨(fun _=>J),aX⟩,J,J,J,J,J,⟨fun sg=>ac J (cg ET (xb _ q_r) ⟨(D J),aX⟩),fun sg=>ac J (cg ET (xb _ q_r) ⟨(D J),aX⟩),aX⟩⟩,
    ⟨⟨[⟨25,fun _=>tC 157 [tV (aq b1 0)],some 2⟩,⟨28,fun _=>X ce r,some 5⟩],_,[([],[6]),([11],[6,11])],J,⟨(fun _=>J),(fun _=>J),aX⟩,J,J,J,J,J,⟨fun sg=>ck J (EffOK.fr2 (EffOK.fr2 (sC (xs:=[.tmp 28]) (ts:=[X ce r]) (cts:=[tV (aq b1 0)]) [bx rV 22 b1 (aM l1 c1 stack1.length),dX hf 27 l1 c1 stack1] _ J Fg (C0 b1 l1 c1 _ _ q_r1) (D J) ⟨(D J),aX⟩ (fun _=>J)))),fun sg=>ck J (EffOK.post_imp (post:=fun x__=>(fun(sg:Nat->OI)=>[bx rV 22 b1 (aM ((sg 6).h 0).1 ((sg 6).h 0).2 r1.2.length),dX hf 27 ((sg 6).h 0).1 ((sg 6).h 0).2 r1.2,bx hf 27 ((sg 11).h 0).2 fQ,bx hf 27 b fQ]) (y7 sg 6 x__)) (EffOK.fr3 (EffOK.fr3 (sC (xs:=[.tmp 28]) (ts:=[X ce r]) (cts:=[tV (aq b1 0)]) [bx rV 22 b1 (aM l1 c1 stack1.length),dX hf 27 l1 c1 stack1] _ J Fg (C0 b1 l1 c1 _ _ q_r1) (D J) ⟨(D J),aX⟩ (fun _=>J)))) (fun h=>cF.pick [2,0,1,3] J h)),aX⟩⟩,
    ⟨⟨[⟨23,fun _=>(jW bf DQ DN (fun(x:aj×(List af))=>do1 x.1 x.2)),some 0⟩,⟨24,fun _=>X ai e2,some 1⟩,⟨29,fun _=>X rd r1.1,some 6⟩],_,[[6],[6,11]],J,⟨(fun _=>J),(fun _=>J),(fun _=>J),aX⟩,J,J,J,J,J,⟨fun sg=>ac J (mZ (args:=DQ) (res:=DN) (f:=(fun(x:aj×(List af))=>do1 x.1 x.2)) (x:=((e2,r1.1):aj×(List af))) (D J) q_r2 ⟨(D J),(D J),aX⟩),fun sg=>ac J (mZ (args:=DQ) (res:=DN) (f:=(fun(x:aj×(List af))=>do1 x.1 x.2)) (x:=((e2,r1.1):aj×(List af))) (D J) q_r2 ⟨(D J),(D J),aX⟩),aX⟩⟩,
    ⟨⟨[⟨30,fun _=>tT [X hf r2.1,X ce r2.2],some 7⟩],_,[[6],[6,11]],J,⟨(fun _=>J),aX⟩,J,J,J,J,J,⟨fun sg=>ac J (jJ J),fun sg=>ac J (jJ J),aX⟩⟩,
    ⟨⟨[⟨22,fun _=>tT [X hf r2.1,X ce r2.2],some 8⟩],_,[[6],[6,11]],J,⟨(fun _=>J),aX⟩,J,J,J,J,J,⟨fun sg=>ac J (vc J J),fun sg=>ac J (vc J J),aX⟩⟩,
    ⟨⟨[⟨22,fun _=>tT [X hf r2.1,X ce r2.2],some 8⟩],_,[[6],[6,11],[6,11,12]],J,⟨(fun _=>J),aX⟩,J,J,J,J,J,⟨fun sg=>ac J (vc J J),fun sg=>ac J (vc J J),fun sg=>ac J (vc J J),aX⟩⟩,
    ⟨⟨[],_,[([],[11]),([6],[6,11])],J,aX,J,J,J,J,J,⟨fun sg=>ck J (iF aL bU),fun sg=>ck J (iF aL bU),aX⟩⟩,
    ⟨⟨[⟨12,fun sg=>tV (aq ((sg 11).h 0).2 0),some 11⟩,⟨31,fun _=>X hf r2.1,some 9⟩],_,[([6,11],[6,11,12])],J,⟨(fun _=>J),(fun _=>J),aX⟩,J,J,J,J,J,⟨fun sg=>ck J (eQ aL J (lZ aa) J (D J) (D J)),aX⟩⟩,
    aX⟩⟩⟩⟩⟩⟩⟩⟩⟩⟩⟩⟩⟩ (fun sg=>?_)
   refine(show RG _ _ _ _ [_,_,_,_] _ from ?_);refine aB 12 J<|aP J<|ba<|bg J<|gk J<|cw h J (fun h=>?_) (fun h=>?_)
   ·refine aW J<|aP J<|d8<|ax<|bA J<|ax<|ax<|cE<|bm<|bm<|aA ?_;exact bY (ae r2.2 r1.2 ((sg 6).h 0).1 ((sg 6).h 0).2 h) (bk J)
   ·refine gg<|aC<|K (iu dC (.head _) (D J))<|bn aL J<|K (aQ (r:=hf) (ys:=[r2.1]) (xs:=[.tmp 37]) gx aL J J J J J ⟨(D J),aX⟩)<|aU<|cq h fun l2 q_l2 h=>dd aL J J J J gx J J (D J) (D J) q_l2 fun l3 c2=>aU<|cy dC J aa J (D J) (uH (D J))<|bc<|cP I hN J<|bm<|bm<|aA ?_;exact aY (aN (ih (i+1) bad1 l2 l3 c2 ⟨cI I,h⟩) (bk J))

end Go.Proofs.YtbmmihfagmchaaaGreat

