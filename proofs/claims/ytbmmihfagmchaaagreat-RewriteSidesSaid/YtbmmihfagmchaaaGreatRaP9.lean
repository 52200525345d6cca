/- db of this claim: P9. -/
import Derived.Test.YtbmmihfagmchaaaGreatRaT
import Derived.Test.YtbmmihfagmchaaaGreatRaP8
set_option linter.all false
namespace Go.Proofs.YtbmmihfagmchaaaGreat
open Go
set_option maxRecDepth 100000

def F4 l place{R}(h:uG l place=some R):cj bf 64 [X aE l,bX place] (tT [X aE R.1,bX R.2]):=by
 refine de Tryz.func64 J<|T<|cA J<|av cV dF J fun b=>cx<|bO<|T<|bn cV J<|da h Gy (zP _) (bQ J) fun r h=>bg J<|bM J J<|bM J J<|bM J J<|f9 J<|f9 J<|aP J<|aF<|am ?_;refine aW J<|K (fV (D J))<|aP J<|jH h J (fun h=>?_) (fun h=>?_)
 ·exact T<|K (bz cV yF dF J)<|aR cV aa J<|dh<|cZ<|aG 4 J<|so h▸bv J J ⟨bb cV J J J,aS J,aX⟩
 ·refine aW J<|K (eO (D J) hI)<|bg J<|aV J (cB J)<|aV J (dv fv dT J J)<|aV J (du lY J J)<|aV J (i5 kZ J)<|aV J (fun Z=>dB (ca J Z) (ca J Z))<|fg J<|aP J<|jH h J (fun h=>?_) (fun h=>?_)
  ·exact T<|K (bz cV yF dF J)<|aR cV aa J<|dh<|cZ<|aG 4 J<|so h▸bv J J ⟨bb cV J J J,aS J,aX⟩
  ·refine bH<|aO<|au<|T<|bE true ap 55<|av (r:=gC) (x:=ib th (aM none 0 (DG.length))) cV tR J fun b1=>bO<|ba<|bg J<|K (wN (D J))<|bw nK rD dJ J<|bg J<|cq h fun e q_e h=>ej ed bR J q_e<|aP J<|am ?_;refine bP<|cr<|cr<|dp ?_;refine aN (AR (hg:=fun n i out l1 c=>n6 l place e n i out=some R) (Of:=fun i out l1 c=>[bx aE 39 b th,bx gC 39 b1 (ib out (aM l1 c out.Nodes.length)),tip ap 55 l1 c out.Nodes]) (Gf:=fun i out l1 c=>[(1,bX place),(2,bp aE l),(4,tV (aq b 0)),(6,bp aZ r.1),(9,tV (aq b1 0)),(10,bX i)]) (fun i out l1 c h=>nn h) (fun n ih i out l1 c h=>?_) mG e ({th with Nodes:=DG}:bB) none 0 h) (bk J);refine fN<|ba<|bg J<|bg J<|K (iK (D J) (D J))<|cw h J (fun h=>?_) (fun h=>?_)
   ·refine gg<|aF<|am<|cq h fun e1 q_e1 h=>cq h fun r1 q_r1 h=>?_
    refine jr 17 (ts:=[tV (aq b1 0),tO ap l1 c out.Nodes,bp vl l.Nodes,eE (ap) l.Nodes,bX i,bp ap e1,X ap e1,bp aZ r.1,bp aZ r.1,bp lK r.1.first,jT r.1.first,bX place,bp ce e,bX e,bX (IntKind.i64.wrap (0-e)),X ap r1,eE (ap) ([r1])]) mixed J J J
     ⟨lV 9 J J (pr 0 fv J J J),
     ⟨dg 44 0 J J (dj lY jy (.tail _ (.head _)) (.tail _ (.tail _ (.head _))) J (D J)),
     ⟨lV 2 J J (jK fv dT J J),
     ⟨ga 2 lY J J,
     ⟨gK J J,
     ⟨eI 47 3 48 4 J J J (DV kZ dK J J J q_e1),
     ⟨ga 5 dK J J,
     ⟨gK J J,
     ⟨dg 51 7 J J (wN (D J)),
     ⟨dg 52 8 J J (jK nK rD J J),
     ⟨ga 9 dJ J J,
     ⟨gK J J,
     ⟨eI 54 10 55 11 J J J (DV ed bR J J J q_e),
     ⟨ga 12 bR J J,
     ⟨dg 57 13 J J (wP (D J)),
     ⟨eI 50 6 58 14 J J J (cg Gv (zN _ _ q_r1) ⟨(D J),(D J),aX⟩),
     ⟨dg 59 15 J J (aQ (r:=ap) (ys:=[r1]) (xs:=[.tmp 59]) kZ dK J J J J J ⟨(D J),aX⟩),
     aX⟩⟩⟩⟩⟩⟩⟩⟩⟩⟩⟩⟩⟩⟩⟩⟩⟩ ?_
    refine cn<|cq h fun l2 q_l2 h=>dU dK J J J J kZ J J (D J) (D J) q_l2 fun l3 c1=>bD 0 fv J<|cn<|c8 lY J (i8 _ _ _) J (D J) (uH (oz (D J)))<|bc<|aO<|au<|aC<|bg J<|K (eh (D J) hI)<|f9 J<|bc<|bm<|bm<|aA ?_;exact aY (aN (ih (IntKind.i64.wrap (i+(1:Int))) ({out with Nodes:=l2}:bB) l3 c1 h) (bk J))
   ·exact d8<|ax<|ax<|cE<|au<|T<|cn<|K (fq (q:=aE) (y:=out) cV J J J J (.tail _ (.tail _ (.head _))) (fun _ _ _ ho h=>mq (hZ ho (.head _)) h) (D J))<|aU<|aR cV aa J<|dh<|aG 4 J<|aH<|aH<|so h▸bv J J ⟨bb cV J J J,aS J,aX⟩

def Eh: ∀(fu:Nat) (l:bB) {R:ay} (h:ka fu l=some R),cj bf 39 [X aE l] (X al R):=by
 intro fu
 induction fu with
 |zero=>intro l R h;exact(nn h).elim
 |succ fu ihR=>
  intro l R h
  refine de Tryz.func39 J<|T<|cA J<|av bo dn J fun b=>bO<|aF<|Dw true al 87<|cq h fun e q_e h=>?_
  refine gw 11 [tc (X aE l),tc (bp vl l.Nodes),tc (eE (ap) l.Nodes),tc (bp vl l.Nodes),tc (eE (ap) l.Nodes),tc (f6 l.Nodes),tc (bX (IntKind.i64.wrap ((l.Nodes.length:Int)-(1:Int)))),tc (bp ap e),tc (X ap e),tc (X gS (lm (⟨l,e,[]⟩:ay) (aM none 0 (zd.length)))),([10],fun s=>tV (aq ((s.getD 0 nh).h 0).2 0))] [false,false,false,false,false,false,false,false,false,false,true] [fun _=>[tip al 87 none 0 zd,bx al 87 b rW],fun sg=>[bx al 87 ((sg 10).h 0).2 rW,tip al 87 none 0 zd,bx al 87 b rW]] J mixed J J J J J
   ⟨⟨[⟨1,fun _=>bp aE l,none⟩],_,0,1,J,⟨(fun _=>J),aX⟩,J,J,J,J,J,fun _ sg _ _=>ac J (lc cV J J)⟩,
   ⟨⟨[⟨1,fun _=>bp aE l,none⟩],_,0,1,J,⟨(fun _=>J),aX⟩,J,J,J,J,J,fun _ sg _ _=>ac J (jK fv dT J J)⟩,
   ⟨⟨[⟨9,fun _=>bp vl l.Nodes,some 1⟩],_,0,1,J,⟨(fun _=>J),aX⟩,J,J,J,J,J,fun _ sg _ _=>ac J (lc lY J J)⟩,
   ⟨⟨[⟨1,fun _=>bp aE l,none⟩],_,0,1,J,⟨(fun _=>J),aX⟩,J,J,J,J,J,fun _ sg _ _=>ac J (jK fv dT J J)⟩,
   ⟨⟨[⟨11,fun _=>bp vl l.Nodes,some 3⟩],_,0,1,J,⟨(fun _=>J),aX⟩,J,J,J,J,J,fun _ sg _ _=>ac J (lc lY J J)⟩,
   ⟨⟨[⟨12,fun _=>X vl l.Nodes,some 4⟩],_,0,1,J,⟨(fun _=>J),aX⟩,J,J,J,J,J,fun _ sg _ _=>ac J (GG kZ J)⟩,
   ⟨⟨[⟨13,fun _=>X ce (l.Nodes.length:Int),some 5⟩],_,0,1,J,⟨(fun _=>J),aX⟩,J,J,J,J,J,fun _ sg _ _=>ac J (cY (D J) hI)⟩,
   ⟨⟨[⟨10,fun _=>X vl l.Nodes,some 2⟩,⟨14,fun _=>X ce (IntKind.i64.wrap ((l.Nodes.length:Int)-(1:Int))),some 6⟩],_,0,1,J,⟨(fun _=>J),(fun _=>J),aX⟩,J,J,J,J,J,fun _ sg _ _=>ac J (DV kZ dK J J J q_e)⟩,
   ⟨⟨[⟨15,fun _=>bp ap e,some 7⟩],_,0,1,J,⟨(fun _=>J),aX⟩,J,J,J,J,J,fun _ sg _ _=>ac J (lc dK J J)⟩,
   ⟨⟨[⟨8,fun _=>X aE l,some 0⟩,⟨16,fun _=>X ap e,some 8⟩],_,0,1,J,⟨(fun _=>J),(fun _=>J),aX⟩,J,J,J,J,J,fun _ sg _ _=>ac J (bz (y:=lm (⟨l,e,[]⟩:ay) (aM none 0 (zd.length))) bo FS A4 (⟨_,_,_,_,_,J,xZ,J,(D J),⟨_,_,_,_,_,J,xY,J,(D J),J⟩⟩))⟩,
   ⟨⟨[],_,J,aX,J,J,J,fun sg=>ck J (iF bo dn)⟩,
   aX⟩⟩⟩⟩⟩⟩⟩⟩⟩⟩⟩ (fun sg=>?_)
  refine(show RG _ _ _ _ [_,_,_] _ from ?_);refine aU<|aU<|c8 (r' :=gS) bo J (gh J) J (D J) (D J)<|bO<|ba<|bD 1 fd J<|bD 2 g9 J<|K (be bR J J (iv s0 dI) (.head _) (D J))<|bD 1 fd J<|bD 3 mo J<|K (be bR J J (iv s0 io) (.head _) (D J))<|K (p5 (r:=ce) (ys:=[((⟨l,e,[]⟩:ay).root).A,((⟨l,e,[]⟩:ay).root).B]) (xs:=[.tmp 20,.tmp 23]) tL bR J rg J J ⟨(D J),(D J),aX⟩)<|K (bS hI)<|bO<|am<|bP<|cr<|cr<|dp ?_;refine aN (xw (hg:=fun k i t l1 c=>(2-i=k)/\jt (ka fu) l e k i t=some R) (Of:=fun _ i t l1 c=>[bx al 87 b rW,bx gS 87 ((sg 10).h 0).2 (lm t (aM l1 c t.parts.length)),tip al 87 l1 c t.parts]) (Gf:=fun _ i t l1 c=>[(1,bp aE l),(2,tV (aq b 0)),(3,tV (aq ((sg 10).h 0).2 0)),(24,X wC ([((⟨l,e,[]⟩:ay).root).A,((⟨l,e,[]⟩:ay).root).B])),(25,bX (i:Int))]) (fun i t l1 c h=>?_) (fun k1 ih i t l1 c h=>?_) 2 0 ({(⟨l,e,[]⟩:ay)with parts:=zd}:ay) none 0 ⟨J,h⟩) (bk J)
  ·obtain⟨I,h⟩:=h
   refine fN<|T<|K (eO (D J) hI)<|bO<|aF<|pW (D J) (FQ I)<|d8<|ax<|ax<|cE<|au<|T<|cn<|K (fq (q:=al) (y:=t) bo J J J J (.tail _ (.tail _ (.head _))) (fun _ _ _ ho h=>uX (hZ ho (.head _)) h) (D J))<|aU<|aR bo aa J<|aB 2 J<|cU<|aH ?_;exact aH<|so h▸eD J bo J J J
  ·obtain⟨I,h⟩:=h
   refine fN<|T<|K (eO (D J) hI)<|bO<|aF<|pV (D J) (FP I)<|gg<|aF<|am<|T<|cq h fun e2 q_e2 h=>K (Bs tL bR J J (D J) (D J) q_e2)<|aP J<|aW J<|K (dB (D J) hI)<|bc ?_;refine au<|jH h J (fun h=>?_) (fun h=>?_)
   ·refine T<|bn cV J<|bg J<|da h I0 (F4 _ _) (bQ J) fun r h=>bg J<|bM J J<|bM J J<|av cV dF J fun b1=>aR cV aa J<|aB 6 J<|aP J<|cq h fun r1 q_r1 h=>?_
    refine jr 5 (ts:=[tV (aq ((sg 10).h 0).2 13),tO al l1 c t.parts,X aE r.1,X al r1,eE (al) ([r1])]) mixed J J J
     ⟨lV 3 J J (pr 13 iO J J J),
     ⟨dg 36 0 J J (dj pf yH (.tail _ (.head _)) (.tail _ (.tail _ (.head _))) J (D J)),
     ⟨lV 6 J J (lc cV J J),
     ⟨dg 38 2 J J (cg Gz (ihR _ q_r1) ⟨(D J),aX⟩),
     ⟨dg 39 3 J J (aQ (r:=al) (ys:=[r1]) (xs:=[.tmp 39]) kb bo J J J J J ⟨(D J),aX⟩),
     aX⟩⟩⟩⟩⟩ ?_
    refine cn<|cq h fun l2 q_l2 h=>dU bo J J J J kb J J (D J) (D J) q_l2 fun l3 c1=>bD 13 iO J<|cn<|c8 pf J (qh _ _ _) J (D J) (uH (oz (D J)))<|bc<|aO<|au<|aC<|K (p3 (CD I (by decide)) (D J) hI)<|bg J<|bc<|bm<|bm<|aA ?_;exact aY (aN (ih (i+1) ({t with parts:=l2}:ay) l3 c1 ⟨CC I,h⟩) (bk J))
   ·refine bH<|aO<|au<|aC<|K (p3 (CD I (by decide)) (D J) hI)<|bg J<|bc ?_;exact aY (aN (ih (i+1) t l1 c ⟨CC I,h⟩) (bk J))
def CV l{R}(h:nV l=some R):cj bf 39 [X aE l] (X al R):=Eh mG l h

def Gl l{R}(h:o7 l=some R):cj bf 13 [X aE l] (tT [X aE R.1,bX R.2]):=by
 refine de Tryz.func13 J<|T<|cA J<|av cV dF J fun b=>cx<|bO<|ba<|bn cV J<|da h EU (xe _) (bQ J) fun r h=>bg J<|bM J J<|bM J J<|f9 J<|aP J<|aW J ?_;refine gk J<|cw h J (fun h=>?_) (fun h=>?_)
 ·exact T<|K (bz cV yF dF J)<|bg J<|aR cV aa J<|bt J<|ak<|aG 2 J<|so h▸bv J J ⟨bb cV J J J,aS J,aX⟩
 ·refine gg<|T<|av (r:=rV) (x:= .nilFunc) DX (fun _=>⟨J,J⟩) J fun b1=>bO<|T<|K (Cy (D J))<|qe (eQ (r' :=rV) (x' :=pA 36 b1) (q:=rV) (y:=pA 36 b1) DX J (gh J) J (D J) (hSV (D J))) fun _=>Af 6 J<|bO<|aF<|cq h fun r1 q_r1 h=>cq h fun r2 q_r2 h=>?_
  refine gw 9 [tc (tV (pA 36 b1)),tc (X aE l),tc (X al r1),tc (tT [X al r2.1,ec r2.2]),tc (tT [X al r2.1,ec r2.2]),tc (X al r2.1),tc (ec r2.2),([7],fun s=>tV (aq ((s.getD 0 nh).h 0).2 0)),tc (qF)] [false,false,false,false,false,false,false,true,true] [fun _=>[bx aE 39 b th],fun sg=>[bx al 87 ((sg 7).h 0).2 rW,bx aE 39 b th],fun sg=>[bx al 87 ((sg 7).h 0).2 r2.1,bx aE 39 b th]] J mixed J J J J J
   ⟨⟨[⟨6,fun _=>tk 36 b1,none⟩],_,0,1,J,⟨(fun _=>J),aX⟩,J,J,J,J,J,fun _ sg _ _=>ac J (yq DX (D J))⟩,
   ⟨⟨[⟨1,fun _=>bp aE l,none⟩],_,0,1,J,⟨(fun _=>J),aX⟩,J,J,J,J,J,fun _ sg _ _=>ac J (lc cV J J)⟩,
   ⟨⟨[⟨21,fun _=>X aE l,some 1⟩],_,0,1,J,⟨(fun _=>J),aX⟩,J,J,J,J,J,fun _ sg _ _=>ac J (cg Gz (CV _ q_r1) ⟨(D J),aX⟩)⟩,
   ⟨⟨[⟨20,fun _=>tV (pA 36 b1),some 0⟩,⟨22,fun _=>X al r1,some 2⟩,⟨6,fun _=>tk 36 b1,none⟩],_,0,1,J,⟨(fun _=>J),(fun _=>J),(fun _=>J),aX⟩,J,J,J,J,J,fun _ sg _ _=>ac J (yr (ts:=[X al r1]) (D J) (cp:= .tmp 6) (D J) Hz (Ge _ _ q_r2) ⟨(D J),aX⟩)⟩,
   ⟨⟨[⟨23,fun _=>tT [X al r2.1,X rB r2.2],some 3⟩],_,0,1,J,⟨(fun _=>J),aX⟩,J,J,J,J,J,fun _ sg _ _=>ac J (jJ J)⟩,
   ⟨⟨[⟨19,fun _=>tT [X al r2.1,X rB r2.2],some 4⟩],_,0,1,J,⟨(fun _=>J),aX⟩,J,J,J,J,J,fun _ sg _ _=>ac J (vc J J)⟩,
   ⟨⟨[⟨19,fun _=>tT [X al r2.1,X rB r2.2],some 4⟩],_,0,2,J,⟨(fun _=>J),aX⟩,J,J,J,J,J,fun _ sg _ _=>ac J (vc J J)⟩,
   ⟨⟨[],_,J,aX,J,J,J,fun sg=>ck J (iF bo dn)⟩,
   ⟨⟨[⟨7,fun sg=>tV (aq ((sg 7).h 0).2 0),some 7⟩,⟨24,fun _=>X al r2.1,some 5⟩],_,J,⟨(fun _=>J),(fun _=>J),aX⟩,J,J,J,fun sg=>ck J (eQ bo J (lZ aa) J (D J) (D J))⟩,
   aX⟩⟩⟩⟩⟩⟩⟩⟩⟩ (fun sg=>?_)
  refine(show RG _ _ _ _ [_,_] _ from ?_);refine aB 7 J<|aP J<|ba<|bg J<|K (fV (D J))<|cw h J (fun h=>?_) (fun h=>?_)
  ·exact T<|bn cV J<|aR cV aa J<|dh<|ak<|aG 2 J<|so h▸bv J J ⟨bb cV J J J,aS J,aX⟩
  ·exact gg<|T<|bw sy mJ cV J<|aR cV aa J<|dh<|aG 2 J<|so h▸bv J J ⟨bb cV J J J,aS J,aX⟩

def Gk l{R}(h:sS l=some R):cj bf 14 [X aE l] (tT [X aE R.1,ec R.2.1,bX R.2.2]):=by
 refine de Tryz.func14 J<|T<|cA J<|av cV dF J fun b=>cu<|cx<|bO<|ba<|bn cV J<|da h EU (xe _) (bQ J) fun r h=>bg J<|bM J J<|bM J J<|f9 J<|aP J<|T ?_;refine bg J<|gk J<|cw h J (fun h=>?_) (fun h=>?_)
 ·exact T<|K (bz cV yF dF J)<|bg J<|aR cV aa J<|cu<|bt J<|ak<|aG 2 J<|so h▸bv J J ⟨bb cV J J J,aS J,aS J,aX⟩
 ·refine gg<|T<|bn cV J<|da h Gz (CV _) (bQ J) fun r1 h=>da h Hx (Gc _ _) (bQ J) fun r2 h=>bg J<|bM J J<|bM J J<|av bo dn J fun b1=>aR bo aa J<|aB 7 J<|aP J<|ba<|bg J<|gk J<|bc ?_;refine au<|jH h J (fun h=>?_) (fun h=>?_)
  ·exact T<|bn cV J<|aR cV aa J<|cu<|dh<|ak<|aG 2 J<|so h▸bv J J ⟨bb cV J J J,aS J,aS J,aX⟩
  ·exact gg<|T<|bw sy mJ cV J<|aR cV aa J<|cu<|dh<|aG 2 J<|so h▸bv J J ⟨bb cV J J J,aS J,aS J,aX⟩

def qT root l{R}(h:ji root l=some R):cj bf 52 [X ai root,eE (hf) l] (X hf R):=by
 refine de Tryz.func52 J<|T<|nO (D J) J fun b=>av aL bU J fun b1=>bO<|T<|bE true ai 63<|av (r:=bW) (x:=cc fQ A9) aL iz J fun b2=>bO<|T<|bD 1 gH J<|cT<|cy bR J kf J (D J) hI<|bD 2 gG J<|cy bR J ke J (D J) hI<|bO<|aF<|aF ?_;refine aC<|bg J<|cM gx J<|K (bS hI)<|bO<|am<|br (k:=13) J fun hN=>bP<|dp<|dp<|fO<|fO ?_;refine aN (j8 (hg:=fun ls i root1 out l1 c=>(l.drop i=ls)/\iD ls i root1 out=some R) (Of:=fun _ i root1 out l1 c=>[bx ai 63 b root1,bx hf 27 b1 fQ,bx bW 27 b2 (cc out (aM l1 c out.Nodes.length)),tip ai 63 l1 c out.Nodes]) (Gf:=fun _ i root1 out l1 c=>[(2,tV (aq b 0)),(4,tV (aq b1 0)),(5,tV (aq b2 0)),(13,eE (hf) l),(14,f6 l),(15,bX (i:Int))]) (fun i root1 out l1 c h=>?_) (fun e tl ih i root1 out l1 c h=>?_) l 0 (aj.mk root.Tag lM lM root.Col root.Value) ({fQ with Nodes:=xJ}:af) none 0 ⟨J,h⟩) (bk J)
 ·obtain⟨I,h⟩:=h
  refine dt I J<|au<|T<|bD 0 bZ J<|K (dj ee dV (.tail _ (.tail _ (.head _))) (.tail _ (.tail _ (.tail _ (.head _)))) J (D J))<|K (be cO J J bC (.head _) (D J))<|K (aQ (r:=ai) (ys:=[root1]) (xs:=[.tmp 68]) hM cO J J J J J ⟨(D J),aX⟩)<|cT<|cq h fun l2 q_l2 h=>dU cO J J J J hM J J (D J) (D J) q_l2 fun l3 c1=>bD 0 bZ J<|cT ?_;exact c8 ee J (jN _ _ _) J (D J) (uH (oz (D J)))<|bO<|T<|aU<|K (fq (q:=hf) (y:=({out with Nodes:=l2}:af)) aL J J J J (.tail _ (.head _)) (fun _ _ _ ho h=>fY (hZ ho (.head _)) h) (D J))<|cT<|aR aL aa J<|aB 4 J<|cU<|aH<|aH<|aH<|so h▸eD J aL J J J
 ·obtain⟨I,h⟩:=h
  refine dr I J<|aF<|am<|aW J<|ej gx aL J (dm I)<|av aL bU J fun b3=>f9 J<|aR aL aa J<|aB 7 J<|bO<|aF ?_;refine aC<|bD 0 bZ J<|K (dj ee dV (.tail _ (.tail _ (.head _))) (.tail _ (.tail _ (.tail _ (.head _)))) J (D J))<|K (fc hM (i7 (D J)))<|aP J<|ba<|bw bZ bL ee J<|cM hM J<|K (bS hI)<|bO<|am<|br (k:=24) J fun hN1=>bP ?_;refine aN (kY (hg:=fun ls1 i1 out1 l4 c2=>(e.Nodes.drop i1=ls1)/\iC (iD tl) i root1 out ls1 out1=some R) (Of:=fun _ i1 out1 l4 c2=>[bx ai 63 b root1,bx hf 27 b1 fQ,bx bW 27 b2 (cc out1 (aM l4 c2 out1.Nodes.length)),tip ai 63 l4 c2 out1.Nodes]) (Gf:=fun _ i1 out1 l4 c2=>[(2,tV (aq b 0)),(4,tV (aq b1 0)),(5,tV (aq b2 0)),(6,bX (i:Int)),(8,f6 out.Nodes),(13,eE (hf) l),(14,f6 l),(15,bX (i:Int)),(24,eE (ai) e.Nodes),(25,f6 e.Nodes),(26,bX (i1:Int))]) (fun i1 out1 l4 c2 h=>?_) (fun e1 tl1 ih1 i1 out1 l4 c2 h=>?_) e.Nodes 0 out l1 c ⟨J,h⟩) (bk J)
  ·obtain⟨hx1,h⟩:=h
   refine dt hx1 J<|au<|aW J<|cb J<|cw h J (fun h=>?_) (fun h=>?_)
   ·refine aC<|bD 0 bZ J<|K (dj ee dV (.tail _ (.tail _ (.head _))) (.tail _ (.tail _ (.tail _ (.head _)))) J (D J))<|K (fc hM (i7 (D J)))<|K (cY (D J) hI)<|bD 1 gH J<|aR bR kf J<|bc<|cP I hN J ?_;exact aY (aN (ih (i+1) (aj.mk root1.Tag (IntKind.i64.wrap ((out1.Nodes.length:Int)-(1:Int))) root1.R root1.Col root1.Value) out1 l4 c2 ⟨cI I,h⟩) (bk J))
   ·refine aC<|bD 0 bZ J<|K (dj ee dV (.tail _ (.tail _ (.head _))) (.tail _ (.tail _ (.tail _ (.head _)))) J (D J))<|K (fc hM (i7 (D J)))<|K (cY (D J) hI)<|bD 2 gG J<|aR bR ke J<|bc<|cP I hN J ?_;exact aY (aN (ih (i+1) (aj.mk root1.Tag root1.L (IntKind.i64.wrap ((out1.Nodes.length:Int)-(1:Int))) root1.Col root1.Value) out1 l4 c2 ⟨cI I,h⟩) (bk J))
  ·obtain⟨hx1,h⟩:=h
   refine dr hx1 J<|aF<|am<|T<|ej hM cO J (dm hx1)<|av cO dS J fun b4=>aR cO aa J<|bO ?_;refine eT (hg:=fun n=>nY out (iC (iD tl) i root1 out tl1) out1 n=some R) (Of:=fun n=>[bx ai 63 b root1,bx hf 27 b1 fQ,bx ai 63 b4 n,bx bW 27 b2 (cc out1 (aM l4 c2 out1.Nodes.length)),tip ai 63 l4 c2 out1.Nodes]) (Gf:=fun n=>[(2,tV (aq b 0)),(4,tV (aq b1 0)),(5,tV (aq b2 0)),(6,bX (i:Int)),(8,f6 out.Nodes),(10,tV (aq b4 0)),(13,eE (hf) l),(14,f6 l),(15,bX (i:Int)),(24,eE (ai) e.Nodes),(25,f6 e.Nodes),(26,bX (i1:Int))]) (fun n h=>?_) (fun ae=>?_)
   ·skip
    refine eT (hg:=fun n1=>nX (iC (iD tl) i root1 out tl1) out1 n1=some R) (Of:=fun n1=>[bx ai 63 b root1,bx hf 27 b1 fQ,bx ai 63 b4 n1,bx bW 27 b2 (cc out1 (aM l4 c2 out1.Nodes.length)),tip ai 63 l4 c2 out1.Nodes]) (Gf:=fun n1=>[(2,tV (aq b 0)),(4,tV (aq b1 0)),(5,tV (aq b2 0)),(6,bX (i:Int)),(8,f6 out.Nodes),(10,tV (aq b4 0)),(13,eE (hf) l),(14,f6 l),(15,bX (i:Int)),(24,eE (ai) e.Nodes),(25,f6 e.Nodes),(26,bX (i1:Int))]) (fun n1 h=>?_) (fun K1=>?_)
    ·skip
     refine aC<|bD 0 bZ J<|K (dj ee dV (.tail _ (.tail _ (.tail _ (.head _)))) (.tail _ (.tail _ (.tail _ (.tail _ (.head _))))) J (D J))<|K (be cO J J bC (.tail _ (.tail _ (.head _))) (D J))<|K (aQ (r:=ai) (ys:=[n1]) (xs:=[.tmp 48]) hM cO J J J J J ⟨(D J),aX⟩)<|kw<|cq h fun l5 q_l5 h=>dU cO J J J J hM J J (D J) (D J) q_l5 fun l6 c3=>bD 0 bZ J<|kw<|c8 ee J (jN _ _ _) J (D J) (uH (oz (D J)))<|bc<|cP hx1 hN1 J<|ci<|aH<|bm<|bm<|bq<|bq ?_;exact aY (aN (ih1 (i1+1) ({out1 with Nodes:=l5}:af) l6 c3 ⟨cI hx1,h⟩) (bk J))
    ·skip
     refine T<|bD 2 gG J<|K (be bR J J ea (.tail _ (.tail _ (.head _))) (D J))<|K (dB (D J) hI)<|cw h J (fun h=>?_) (fun h=>?_)
     ·refine aC<|bD 2 gG J<|K (be bR J J ea (.tail _ (.tail _ (.head _))) (D J))<|bg J<|K (eh (D J) (D J))<|bD 2 gG J<|cn<|aR bR ke J<|bc<|ci<|ci<|aA<|ci<|ci ?_;exact bY (K1 (aj.mk n.Tag n.L (IntKind.i64.wrap (n.R+(out.Nodes.length:Int))) n.Col n.Value) h) (bk J)
     ·refine bH ?_;exact bY (K1 n h) (bk J)
   ·skip
    refine T<|bD 1 gH J<|K (be bR J J eb (.head _) (D J))<|K (dB (D J) hI)<|cw h J (fun h=>?_) (fun h=>?_)
    ·refine aC<|bD 1 gH J<|K (be bR J J eb (.head _) (D J))<|bg J<|K (eh (D J) (D J))<|bD 1 gH J<|aR bR kf J<|bc<|ci<|ci<|aA<|ci<|ci ?_;exact bY (ae (aj.mk e1.Tag (IntKind.i64.wrap (e1.L+(out.Nodes.length:Int))) e1.R e1.Col e1.Value) h) (bk J)
    ·refine bH<|ci<|ci<|aA<|ci<|ci ?_;exact bY (ae e1 h) (bk J)

def Ga n{R}(h:vL n=some R):cj bf 53 [bX n] (X cH R):=by
 exact de Tryz.func53 J<|T<|av jM gQ J fun b=>bO<|aW J<|K (bz (y:=(⟨(2:Int),n,(0:Int),[]⟩:bT)) jM yD gQ (⟨_,_,_,_,_,J,mO,J,hI,⟨_,_,_,_,_,J,oC,J,(D J),J⟩⟩))<|aR jM aa J<|aB 2 J<|cU<|so h▸eD J jM J J J

def zQ col n{R}(h:nE col n=some R):cj bf 22 [bX col,bX n] (X hf R):=by
 refine de Tryz.func22 J<|T<|av aL bU J fun b=>bO<|T<|K (bz (y:=Fw) cO yC dS (⟨_,_,_,_,_,J,jg,J,hI,J⟩))<|bg J<|K (bz (y:=(⟨(2:Int),(0:Int),(0:Int),col,A8⟩:aj)) cO yC dS (⟨_,_,_,_,_,J,jg,J,hI,⟨_,_,_,_,_,J,oE,J,(D J),J⟩⟩))<|da h Ac (qT _ _) ⟨(D J),vB,aX⟩ fun r h=>bg J<|da h I8 (Ga _) (bQ J) fun r1 h=>K (bz (y:=(⟨(1:Int),(0:Int),(0:Int),(0:Int),r1⟩:aj)) cO yC dS (⟨_,_,_,_,_,J,jg,J,hI,⟨_,_,_,_,_,J,uo,J,(D J),J⟩⟩))<|da h Ac (qT _ _) ⟨(D J),vB,aX⟩ fun r2 h=>K (aQ (r:=hf) (ys:=[r,r2]) (xs:=[.tmp 8,.tmp 12]) gx aL J J J J J ⟨(D J),(D J),aX⟩)<|da h Ac (qT _ _) (bQ J) fun r3 h=>aR aL aa J<|aB 4 J ?_;exact cU<|so h▸eD J aL J J J

def CZ{R}(h:pI=some R):cj bf 20 [] (X aE R):=by
 refine de Tryz.func20 J<|T<|av cV dF J fun b=>bO<|T<|K (bz (y:=(⟨(22:Int),(0:Int),(0:Int),(0:Int),A8⟩:aj)) cO yC dS (⟨_,_,_,_,_,J,jg,J,hI,J⟩))<|da h GB (zQ _ _) (bQ J) fun r h=>da h GB (zQ _ _) (bQ J) fun r1 h=>K (aQ (r:=hf) (ys:=[r,r1]) (xs:=[.tmp 3,.tmp 4]) gx aL J J J J J ⟨(D J),(D J),aX⟩)<|da h Ac (qT _ _) (bQ J) fun r2 h=>av aL bU J fun b1=>aR aL aa J<|aB 1 J<|bO<|aF<|cq h fun r3 q_r3 h=>cq h fun r4 q_r4 h=>?_;refine cq h fun r5 q_r5 h=>?_
 refine jr 16 (ts:=[jT ([(2:Int)]),X ap GH,jT ([(2:Int)]),X ap GI,X ai Fw,X ai (⟨(2:Int),(0:Int),(0:Int),(0:Int),A8⟩:aj),X hf r3,X ai (⟨(2:Int),(0:Int),(0:Int),(1:Int),A8⟩:aj),X hf r4,eE (hf) ([r3,r4]),X hf r5,X ap (⟨(2:Int),(0:Int),(1:Int),(0:Int),[],false,r5,[],[],[],[],(0:Int)⟩:an),X hf r2,X ap (⟨(3:Int),(2:Int),lM,(0:Int),[],false,r2,[],[],[],[],(0:Int)⟩:an),eE (ap) ([GH,GI,(⟨(2:Int),(0:Int),(1:Int),(0:Int),[],false,r5,[],[],[],[],(0:Int)⟩:an),(⟨(3:Int),(2:Int),lM,(0:Int),[],false,r2,[],[],[],[],(0:Int)⟩:an)]),X aE (⟨[GH,GI,(⟨(2:Int),(0:Int),(1:Int),(0:Int),[],false,r5,[],[],[],[],(0:Int)⟩:an),(⟨(3:Int),(2:Int),lM,(0:Int),[],false,r2,[],[],[],[],(0:Int)⟩:an)]⟩:bB)]) mixed J J J
  ⟨Cd J (aQ (r:=ce) (ys:=[(2:Int)]) (xs:=[.const (.int .i64 (2))]) ed bR J J J J J ⟨hI,aX⟩),
  ⟨dg 7 0 J J (bz (y:=GH) dK yE fP (⟨_,_,_,_,_,J,jf,J,hI,⟨_,_,_,_,_,J,kd,J,hI,⟨_,_,_,_,_,J,kc,J,hI,⟨_,_,_,_,_,J,oD,J,(D J),J⟩⟩⟩⟩)),
  ⟨Cd J (aQ (r:=ce) (ys:=[(2:Int)]) (xs:=[.const (.int .i64 (2))]) ed bR J J J J J ⟨hI,aX⟩),
  ⟨dg 9 2 J J (bz (y:=GI) dK yE fP (⟨_,_,_,_,_,J,jf,J,hI,⟨_,_,_,_,_,J,kd,J,hI,⟨_,_,_,_,_,J,kc,J,hI,⟨_,_,_,_,_,J,um,J,hI,⟨_,_,_,_,_,J,oD,J,(D J),J⟩⟩⟩⟩⟩)),
  ⟨Cd J (bz (y:=Fw) cO yC dS (⟨_,_,_,_,_,J,jg,J,hI,J⟩)),
  ⟨Cd J (bz (y:=(⟨(2:Int),(0:Int),(0:Int),(0:Int),A8⟩:aj)) cO yC dS (⟨_,_,_,_,_,J,jg,J,hI,J⟩)),
  ⟨dg 12 5 J J (cg Ac (qT _ _ q_r3) ⟨(D J),vB,aX⟩),
  ⟨Cd J (bz (y:=(⟨(2:Int),(0:Int),(0:Int),(1:Int),A8⟩:aj)) cO yC dS (⟨_,_,_,_,_,J,jg,J,hI,⟨_,_,_,_,_,J,oE,J,hI,J⟩⟩)),
  ⟨dg 14 7 J J (cg Ac (qT _ _ q_r4) ⟨(D J),vB,aX⟩),
  ⟨eI 13 6 15 8 J J J (aQ (r:=hf) (ys:=[r3,r4]) (xs:=[.tmp 13,.tmp 15]) gx aL J J J J J ⟨(D J),(D J),aX⟩),
  ⟨eI 11 4 16 9 J J J (cg Ac (qT _ _ q_r5) ⟨(D J),(D J),aX⟩),
  ⟨dg 17 10 J J (bz (y:=(⟨(2:Int),(0:Int),(1:Int),(0:Int),[],false,r5,[],[],[],[],(0:Int)⟩:an)) dK yE fP (⟨_,_,_,_,_,J,jf,J,hI,⟨_,_,_,_,_,J,kd,J,hI,⟨_,_,_,_,_,J,kc,J,hI,⟨_,_,_,_,_,J,je,J,(D J),J⟩⟩⟩⟩)),
  ⟨lV 1 J J (lc aL J J),
  ⟨dg 19 12 J J (bz (y:=(⟨(3:Int),(2:Int),lM,(0:Int),[],false,r2,[],[],[],[],(0:Int)⟩:an)) dK yE fP (⟨_,_,_,_,_,J,jf,J,hI,⟨_,_,_,_,_,J,kd,J,hI,⟨_,_,_,_,_,J,kc,J,hI,⟨_,_,_,_,_,J,je,J,(D J),J⟩⟩⟩⟩)),
  ⟨⟨[⟨8,_,some 1⟩,⟨10,_,some 3⟩,⟨18,_,some 11⟩,⟨20,_,some 13⟩],_,J,⟨J,J,J,J,aX⟩,J,J,ac J (aQ (r:=ap) (ys:=[GH,GI,(⟨(2:Int),(0:Int),(1:Int),(0:Int),[],false,r5,[],[],[],[],(0:Int)⟩:an),(⟨(3:Int),(2:Int),lM,(0:Int),[],false,r2,[],[],[],[],(0:Int)⟩:an)]) (xs:=[.tmp 8,.tmp 10,.tmp 18,.tmp 20]) kZ dK J J J J J ⟨(D J),(D J),(D J),(D J),aX⟩)⟩,
  ⟨dg 21 14 J J (bz (y:=(⟨[GH,GI,(⟨(2:Int),(0:Int),(1:Int),(0:Int),[],false,r5,[],[],[],[],(0:Int)⟩:an),(⟨(3:Int),(2:Int),lM,(0:Int),[],false,r2,[],[],[],[],(0:Int)⟩:an)]⟩:bB)) cV yF dF (⟨_,_,_,_,_,J,zr,J,(D J),J⟩)),
  aX⟩⟩⟩⟩⟩⟩⟩⟩⟩⟩⟩⟩⟩⟩⟩⟩ ?_
 exact aR cV aa J<|aB 0 J<|cU<|so h▸eD J cV J J J

end Go.Proofs.YtbmmihfagmchaaaGreat

