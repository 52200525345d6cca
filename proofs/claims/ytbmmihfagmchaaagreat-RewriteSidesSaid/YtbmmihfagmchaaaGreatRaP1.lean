/- db of this claim: P1. -/
import Derived.Test.YtbmmihfagmchaaaGreatRaT
import Derived.Test.YtbmmihfagmchaaaGreatRaP0
set_option linter.all false
namespace Go.Proofs.YtbmmihfagmchaaaGreat
open Go
set_option maxRecDepth 100000

def sA e{R}(h:iq e=some R):cj bf 24 [X hf e] (bX R):=by
 refine de Tryz.func24 J<|T<|cA J<|cx<|bO<|ba<|bn aL J<|da h Hw (CT _) (bQ J) fun r h=>bg J<|bM J J<|bM J J<|f9 J<|aP J<|aW J<|K (fV (D J)) ?_;refine cw h J (fun h=>?_) (fun h=>?_)
 ·exact T<|dh<|ak<|so h▸bl J J
 ·exact gg<|T<|dh<|so h▸bl J J

def Ho(l:Option Nat)(c:Nat) s{R}(h:fC s=some R):df bf 51 [n9 l c s] [dX ce 3 l c s] (fun i:OI=>n9 (i.h 0).1 (i.h 0).2 R) (fun i=>[dX ce 3 (i.h 0).1 (i.h 0).2 R]):=by
 refine df.of Tryz.func51 J J J fun w0 S0=>T<|bE false ce 3<|K (bF pl)<|bO<|ba<|bg J<|K (dD ed (.tail _ (.head _)) (D J))<|K (eO (D J) hI)<|cw h J (fun h=>?_) (fun h=>?_)
 ·exact aW J<|bt J<|ak<|aH<|so h▸j9 J (oi l c) J J (fun _ _ h=>h)
 ·refine gg<|ba<|cx<|bO<|am<|d7 (.tail _ (.head _)) fun hN=>bP<|jD ?_;refine aN (iw (hg:=fun ls i=>(s.drop i=ls)/\di s ls i=some R) (Of:=fun _ i=>[dX ce 3 l c s]) (Gf:=fun _ i=>[(0,n9 l c s),(3,bX (i:Int))]) (fun i h=>?_) (fun e tl ih i h=>?_) (s.drop (1)) 1 ⟨J,h⟩) (bk J)
  ·obtain⟨I,h⟩:=h
   exact fN<|ba<|bg J<|bg J<|K (dD ed (.head _) (D J))<|tU J<|bO<|pW (D J) (Ff I)<|d8<|ax<|ax<|cE<|au<|aW J<|bt J<|so h▸j9 J (oi l c) J J (fun _ _ h=>h)
  ·obtain⟨I,h⟩:=h
   refine fN<|ba<|bg J<|bg J<|K (dD ed (.head _) (D J))<|tU J<|bO<|pV (D J) (Dc I)<|gg<|aF<|am<|aF<|cq h fun e1 q_e1 h=>?_
   refine eC (ts:=[_,_,_,_,_,_,_,_,_,_]) mixed J J
    ⟨gK J J,
    ⟨gK J J,
    ⟨eI 16 0 17 1 J J J (bI ed bR (.head _) (D J) (D J) (dm I)),
    ⟨dg 18 2 J J (cD (r:=ce) (i:=(i:Int)) (foff:=0) bR J J bC J (.head _) (dm I) (D J)),
    ⟨gK J J,
    ⟨gK J J,
    ⟨dg 21 5 J J (cY (D J) hI),
    ⟨eI 20 4 22 6 J J J (bI ed bR (.head _) (D J) (D J) q_e1),
    ⟨dg 23 7 J J (cD (r:=ce) (i:=(IntKind.i64.wrap ((i:Int)-(1:Int)))) (foff:=0) bR J J bC J (.head _) q_e1 (D J)),
    ⟨eI 19 3 24 8 J J J (fF (D J) (D J)),
    aX⟩⟩⟩⟩⟩⟩⟩⟩⟩⟩ ?_
   refine au<|jH h J (fun h=>?_) (fun h=>?_)
   ·refine aW J<|bg J<|cq h fun y q_y h=>K (lP ed bR J (.head _) (D J) (D J) q_y)<|kX (.head _) q_y fun hv=>aP J<|ba<|cx<|bO<|am<|bP ?_;refine aN (AP (hg:=fun k1 i1 s1 k=>(y.length-i1=k1)/\cR i y k1 i1 s1 k=some R) (Of:=fun _ i1 s1 k=>[dX ce 3 l c s1]) (Gf:=fun _ i1 s1 k=>[(0,n9 l c s1),(3,bX k),(4,tV (jU 1 l c (i:Int).toNat y.length)),(5,bX (i1:Int))]) (fun i1 s1 k h=>?_) (fun k2 ih1 i1 s1 k h=>?_) (y.length-1) 1 s (i:Int) ⟨J,h⟩) (bk J)
    ·obtain⟨hx1,h⟩:=h
     refine fN<|ba<|bg J<|bg J<|K (Aw ed hv.1 (D J))<|tU J<|bO<|pW (D J) (FQ hx1)<|d8<|ax<|ax<|cE<|au<|aW J<|bg J<|cq h fun y1 q_y1 h=>K (lP ed bR J (.head _) (D J) (D J) q_y1)<|kX (.head _) q_y1 fun hv1=>cq h fun cl q_cl h=>?_;exact BN bR J J ed (fun _=>J) J q_y1 (D J) (so q_cl)<|eS (wj q_y1 (so q_cl)) 0 J<|eS (wj q_y1 (so q_cl)) 54 J<|bO<|aW J<|bg J<|cq h fun y2 q_y2 h=>K (kr ed bR J (.head _) (D J) (D J) q_y2)<|sH q_y2<|bt J<|cZ<|ak<|cZ<|so h▸j9 J (oi l c) J J (fun _ _ h=>h)
    ·obtain⟨hx1,h⟩:=h
     refine fN<|ba<|bg J<|bg J<|K (Aw ed hv.1 (D J))<|tU J<|bO<|pV (D J) (FP hx1)<|gg<|aF<|am<|aF<|cq h fun e3 q_e3 h=>cq h fun e4 q_e4 h=>?_
     refine eC (ts:=[_,_,_,_,_,_,_,_,_,_]) mixed J J
      ⟨gK J J,
      ⟨gK J J,
      ⟨eI 35 0 36 1 J J J (nZ ed bR J (.head _) (sf q_y) (D J) (D J) q_e3),
      ⟨dg 37 2 J J (cD (r:=ce) (i:=((i:Int)+(i1:Int))) (foff:=0) bR J J bC J (.head _) (p6 q_e3).2.2 (D J)),
      ⟨gK J J,
      ⟨gK J J,
      ⟨dg 40 5 J J (cY (D J) hI),
      ⟨eI 39 4 41 6 J J J (nZ ed bR J (.head _) (sf q_y) (D J) (D J) q_e4),
      ⟨dg 42 7 J J (cD (r:=ce) (i:=((i:Int)+(IntKind.i64.wrap ((i1:Int)-(1:Int))))) (foff:=0) bR J J bC J (.head _) (p6 q_e4).2.2 (D J)),
      ⟨eI 38 3 43 8 J J J (ia (D J) (D J)),
      aX⟩⟩⟩⟩⟩⟩⟩⟩⟩⟩ ?_
     refine au<|jH h J (fun h=>?_) (fun h=>?_)
     ·refine aW J<|bg J<|bg J<|bg J<|cq h fun e5 q_e5 h=>K (nZ ed bR J (.head _) (sf q_y) (D J) (D J) q_e5)<|K (cD (r:=ce) (i:=((i:Int)+(i1:Int))) (foff:=0) bR J J bC J (.head _) (p6 q_e5).2.2 (D J))<|cq h fun e6 q_e6 h=>K (bI ed bR (.head _) (D J) (D J) q_e6)<|cq h fun st q_st h=>jA bR J aa J q_e6 (so q_st) (D J) (D J)<|eS (dM (so q_st)) 0 J<|eS (dM (so q_st)) 45 J<|bO<|aC<|bg J<|K (eh (D J) hI)<|f9 J<|bc<|aO<|au ?_;refine aC<|bg J<|K (p3 (CD hx1 (G4 hv.2)) (D J) hI)<|f9 J<|bc ?_;exact aY (aN (ih1 (i1+1) st (IntKind.i64.wrap (k+(1:Int))) ⟨CC hx1,h⟩) (bk J))
     ·refine bH<|aO<|au<|aC<|bg J<|K (p3 (CD hx1 (G4 hv.2)) (D J) hI)<|f9 J<|bc ?_;exact aY (aN (ih1 (i1+1) s1 k ⟨CC hx1,h⟩) (bk J))
   ·refine bH<|GQ I hN J ?_;exact aY (aN (ih (i+1) ⟨cI I,h⟩) (bk J))

def xc e{R}(h:lz e=some R):ev bf 56 [X hf e] false ce 3 R:=by
 refine ev.of Tryz.func56 J J J fun w0 S0=>T<|cA J<|bE false ce 3<|K (bF pl)<|bO<|ba<|bn aL J<|da h BG (sA _) (bQ J) fun r h=>gk J<|cw h J (fun h=>?_) (fun h=>?_)
 ·exact T<|bE false ce 3<|K (bF pl)<|cU<|ak<|so h▸f8 J J
 ·refine gg<|T<|bE false ce 3<|K (bF pl)<|bO<|ba<|bw bZ bL ee J<|cM hM J<|K (bS hI)<|bO<|am<|br (k:=10) J fun hN=>bP<|cr<|jD ?_;refine aN (kY (hg:=fun ls i out l c=>(e.Nodes.drop i=ls)/\ip ls out=some R) (Of:=fun _ i out l c=>[dX ce 3 l c out]) (Gf:=fun _ i out l c=>[(3,n9 l c out),(10,eE (ai) e.Nodes),(11,f6 e.Nodes),(12,bX (i:Int))]) (fun i out l c h=>?_) (fun e1 tl ih i out l c h=>?_) e.Nodes 0 tg none 0 ⟨J,h⟩) (bk J)
  ·obtain⟨I,h⟩:=h
   refine dt I J<|au<|aW J<|cq h fun srt q_srt h=>?_;refine Dq (n:=out.length) (ys:=srt) xp ?_ Ja ?_ ?_ ?_ ?_ ?_
   ·rfl
   ·exact q_srt
   ·exact(D J)
   ·rfl
   ·rfl
   intro hl
   refine yT hl 3 J<|yT hl 25 J<|bO<|aW J<|cq h fun r1 q_r1 h=>pS [dX ce 3 l c srt] _ J I9 (Ho l c _ q_r1) ⟨(D J),aX⟩ J fun i1=>?_;refine(show RG _ _ _ _ [_] ((28,n9 (i1.h 0).1 (i1.h 0).2 r1)::_)from ?_);exact bt J<|so h▸f8 J J
  ·obtain⟨I,h⟩:=h
   refine dr I J<|aF<|am<|T<|ej hM cO J (dm I)<|av cO dS J fun b=>aR cO aa J<|aB 5 J<|bO<|T<|k6 fW cJ J ?_;refine bn bR J<|cb J<|cw h J (fun h=>?_) (fun h=>?_)
   ·refine aC<|bg J<|bw gZ dk bR J<|K (aQ (r:=ce) (ys:=[e1.Col]) (xs:=[.tmp 21]) ed bR J J J J J ⟨(D J),aX⟩)<|cq h fun out1 q_out1 h=>dd bR J J J J ed J J (D J) (D J) q_out1 fun l2 c2=>f9 J<|bc<|cP I hN J ?_;exact aY (aN (ih (i+1) out1 l2 c2 ⟨cI I,h⟩) (bk J))
   ·refine bH<|cP I hN J ?_;exact aY (aN (ih (i+1) out l c ⟨cI I,h⟩) (bk J))
def xd s{R}(h:cK s=some R):ev bf 44 [jT s] false ce 3 R:=by
 refine ev.of Tryz.func44 J J J fun w0 S0=>T<|bE false ce 3<|K (bF pl)<|bO<|ba<|bg J<|pR ed (D J) J fun isnil hisnil=>bO<|lJ (D J) (fun hc=>?_) (fun hc=>?_)
 ·have I:=hisnil hc
  have h:some tg=some R:=by simpa [cK,kF,I] using h
  exact T<|bE false ce 3<|K (bF pl)<|cU<|ak<|so h▸f8 J J
 ·exact gg<|T<|eJ (r:=ce) (ys:=tg) (xs:=[]) ed bR J J J J J trivial J fun l c=>bg J<|cq h fun x q_x h=>dd bR J J J J ed J J (D J) (D J) q_x fun l1 c1=>bt J<|so h▸f8 J J
def CU s{R}(h:cK s=some R):cj bf 44 [jT s] (jT R):=(xd _ h).spec

def Hp{l:Option Nat}{c:Nat}{xs s:List Int}{lo:Int}{R}(hs:cW xs lo (xs.length:Int)=some s)(h:cK s=some R):df bf 44 [tV (jU 1 l c lo.toNat s.length)] [dX ce 3 l c xs] (fun i:OI=>n9 (i.h 0).1 (i.h 0).2 R) (fun i=>[dX ce 3 (i.h 0).1 (i.h 0).2 R,dX ce 3 l c xs]):=by
 refine df.of Tryz.func44 J J J fun w0 S0=>T<|K (bF pl)<|bO<|ba<|bg J<|wm (r:=ce) ed (.head _) hs (D J) J fun isnil hisnil=>bO<|lJ (D J) (fun hc=>?_) (fun hc=>?_)
 ·have I:=hisnil hc
  have h:some tg=some R:=by simpa [cK,kF,I] using h
  exact T<|bE false ce 3<|K (bF pl)<|cU<|ak<|so h▸j9 J (oi none 0) J J (fun _ _ h=>h)
 ·exact gg<|T<|eJ (r:=ce) (ys:=tg) (xs:=[]) ed bR J J J J J trivial J fun l1 c1=>bg J<|cq h fun x q_x h=>u3 bR J J J J ed J J (D J) (.tail _ (.head _)) hs (D J) q_x fun l2 c2=>bt J<|so h▸j9 J (oi l2 c2) J J (fun _ _ h=>h)

def Gi(b:Nat)(l:Option Nat)(c:Nat) stack k{R}(h:o9 stack k=some R):df bf 158 [bX k,tV (aq b 0)] [bx rV 23 b (aM l c stack.length),dX ce 3 l c stack] (fun i:OI=>jT R.1) (fun i=>[bx rV 23 b (aM (i.h 0).1 (i.h 0).2 R.2.length),dX ce 3 (i.h 0).1 (i.h 0).2 R.2]):=by
 refine df.of Tryz.func158 J J J fun w0 S0=>T<|gb ce<|bO<|T<|K (iu dJ (.head _) (D J))<|K (iu dJ (.head _) (D J))<|K (dD ed (.tail _ (.head _)) (D J))<|bg J<|K (cY (D J) (D J))<|cq h fun y q_y h=>K (lP ed bR J (.tail _ (.head _)) (D J) (D J) q_y)<|kX (.tail _ (.head _)) q_y fun hv=>aU<|cq h fun r q_r h=>pS [dX ce 3 l c stack] _ J Dh (Hp q_y q_r) ⟨(D J),aX⟩ J fun i=>?_;refine(show RG _ _ _ _ [_,_,_] _ from ?_);refine aP J<|T<|K (iu dJ (.tail _ (.tail _ (.head _))) (D J))<|K (iu dJ (.tail _ (.tail _ (.head _))) (D J))<|K (dD ed (.tail _ (.head _)) (D J))<|bg J<|K (cY (D J) (D J))<|cq h fun y1 q_y1 h=>K (kr ed bR J (.tail _ (.head _)) (D J) (D J) q_y1)<|aU<|sH q_y1<|cn<|cy dJ J aa J (D J) (uH (D J))<|bO<|aW J<|aP J ?_;exact hJ<|aA<|kx<|dz 3 J<|dz 11 J<|dz 4 J<|dz 18 J<|iG 3 J<|aH<|bm<|bm<|so h▸j9 J (oi l c) J J (fun _ _ h=>h)

def Es e do1{R}(h:qt e do1=some R):cj bf 151 [X hf e,(jW bf DO DL (fun(x:aj×(List Int))=>do1 x.1 x.2))] (tT [bX R.1,bX R.2]):=by
 refine de Tryz.func151 J<|T<|cA J<|cx<|cx<|bO<|u8<|T<|bE false ce 3<|av (x:=aM none 0 0) dJ (fun _=>Cp) J fun b=>bO<|T<|cx<|bO<|T<|K (yn (cts:=[tV (aq b 0)]) (caps:=[.tmp 6]) ⟨(D J),aX⟩)<|f9 J ?_;refine bO<|T<|cx<|bO<|aF<|u9<|au<|ba<|bw bZ bL ee J<|cM hM J<|K (bS hI)<|bO ?_;refine wq (hg:=fun bad stack l c=>ly bad stack=some R) (Of:=fun bad stack l c=>[bx rV 23 b (aM l c stack.length),dX ce 3 l c stack]) (Gf:=fun bad stack l c=>[(6,tV (aq b 0)),(7,bX 0),(9,bX bad)]) (fun bad stack l c h=>?_) (fun ae=>?_)
 ·skip
  refine au<|ba<|bg J<|gk J<|cw h J (fun h=>?_) (fun h=>?_)
  ·exact aW J<|bg J<|f9 J<|bt J<|ak<|mK<|aH<|aH<|so h▸dE J J J
  ·exact gg<|T<|K (iu dJ (.head _) (D J))<|cq h fun e1 q_e1 h=>K (bI ed bR (.tail _ (.head _)) (D J) hI q_e1)<|K (cD (r:=ce) (i:=(0:Int)) (foff:=0) bR J J bC J (.tail _ (.head _)) q_e1 (D J))<|f9 J<|dh<|mK<|aH<|aH<|so h▸dE J J J
 ·skip
  refine br (k:=16) J fun hN=>bP ?_;refine aN (j8 (hg:=fun ls i bad1 stack1 l1 c1=>(e.Nodes.drop i=ls)/\lx do1 ls bad1 stack1=some R) (Of:=fun _ i bad1 stack1 l1 c1=>[bx rV 23 b (aM l1 c1 stack1.length),dX ce 3 l1 c1 stack1]) (Gf:=fun _ i bad1 stack1 l1 c1=>[(1,(jW bf DO DL (fun(x:aj×(List Int))=>do1 x.1 x.2))),(6,tV (aq b 0)),(7,bX 0),(8,tC 158 [tV (aq b 0)]),(9,bX bad1),(16,eE (ai) e.Nodes),(17,f6 e.Nodes),(18,bX (i:Int))]) (fun i bad1 stack1 l1 c1 h=>?_) (fun e2 tl ih i bad1 stack1 l1 c1 h=>?_) e.Nodes 0 (0:Int) tg none 0 ⟨J,h⟩) (bk J)
  ·obtain⟨I,h⟩:=h
   refine dt I J ?_;exact bY (ae bad1 stack1 l1 c1 h) (bk J)
  ·obtain⟨I,h⟩:=h
   refine dr I J<|aF<|am<|T<|ej hM cO J (dm I)<|av cO dS J fun b1=>aR cO aa J<|aB 11 J<|bO<|aF<|cq h fun r q_r h=>cq h fun r1 q_r1 h=>?_;refine cq h fun r2 q_r2 h=>?_
   refine gw 12 [tc ((jW bf DO DL (fun(x:aj×(List Int))=>do1 x.1 x.2))),tc (X ai e2),tc (tC 158 [tV (aq b 0)]),tc (bp ce e2.Tag),tc (bX e2.Tag),tc (bX r),tc (jT r1.1),tc (tT [bX r2.1,bX r2.2]),tc (tT [bX r2.1,bX r2.2]),tc (bX r2.1),tc (bX r2.2),tc (bX r2.1)] [false,false,false,false,false,false,true,false,false,false,false,false] [fun _=>[bx rV 23 b (aM l1 c1 stack1.length),dX ce 3 l1 c1 stack1],fun sg=>[bx rV 23 b (aM ((sg 6).h 0).1 ((sg 6).h 0).2 r1.2.length),dX ce 3 ((sg 6).h 0).1 ((sg 6).h 0).2 r1.2]] J mixed J J J J J
    ⟨⟨[⟨1,fun _=>(jW bf Fx Fv (fun(x:aj×(List Int))=>do1 x.1 x.2)),none⟩],_,0,1,J,⟨(fun _=>J),aX⟩,J,J,J,J,J,fun _ sg _ _=>ac J (jJ J)⟩,
    ⟨⟨[⟨11,fun _=>bp ai e2,none⟩],_,0,1,J,⟨(fun _=>J),aX⟩,J,J,J,J,J,fun _ sg _ _=>ac J (lc cO J J)⟩,
    ⟨⟨[⟨8,fun _=>tC 158 [tV (aq b 0)],none⟩],_,0,0,J,⟨(fun _=>J),aX⟩,J,J,J,J,J,fun _ sg _ _=>ac J (jJ J)⟩,
    ⟨⟨[⟨11,fun _=>bp ai e2,none⟩],_,0,0,J,⟨(fun _=>J),aX⟩,J,J,J,J,J,fun _ sg _ _=>ac J (jK fW cJ J J)⟩,
    ⟨⟨[⟨26,fun _=>bp ce e2.Tag,some 3⟩],_,0,0,J,⟨(fun _=>J),aX⟩,J,J,J,J,J,fun _ sg _ _=>ac J (lc bR J J)⟩,
    ⟨⟨[⟨27,fun _=>X ce e2.Tag,some 4⟩],_,0,0,J,⟨(fun _=>J),aX⟩,J,J,J,J,J,fun _ sg _ _=>ac J (cg ET (xb _ q_r) ⟨(D J),aX⟩)⟩,
    ⟨⟨[⟨25,fun _=>tC 158 [tV (aq b 0)],some 2⟩,⟨28,fun _=>X ce r,some 5⟩],_,J,⟨(fun _=>J),(fun _=>J),aX⟩,J,J,J,fun sg=>ck J (EffOK.fr1 (EffOK.fr1 (sC (xs:=[.tmp 28]) (ts:=[X ce r]) (cts:=[tV (aq b 0)]) [bx rV 23 b (aM l1 c1 stack1.length),dX ce 3 l1 c1 stack1] _ J HE (Gi b l1 c1 _ _ q_r1) (D J) ⟨(D J),aX⟩ (fun _=>J))))⟩,
    ⟨⟨[⟨23,fun _=>(jW bf Fx Fv (fun(x:aj×(List Int))=>do1 x.1 x.2)),some 0⟩,⟨24,fun _=>X ai e2,some 1⟩,⟨29,fun _=>X r8 r1.1,some 6⟩],_,1,1,J,⟨(fun _=>J),(fun _=>J),(fun _=>J),aX⟩,J,J,J,J,J,fun _ sg _ _=>ac J (mZ (args:=Fx) (res:=Fv) (f:=(fun(x:aj×(List Int))=>do1 x.1 x.2)) (x:=((e2,r1.1):aj×(List Int))) (D J) q_r2 ⟨(D J),(D J),aX⟩)⟩,
    ⟨⟨[⟨30,fun _=>tT [X ce r2.1,X ce r2.2],some 7⟩],_,1,1,J,⟨(fun _=>J),aX⟩,J,J,J,J,J,fun _ sg _ _=>ac J (jJ J)⟩,
    ⟨⟨[⟨22,fun _=>tT [X ce r2.1,X ce r2.2],some 8⟩],_,1,1,J,⟨(fun _=>J),aX⟩,J,J,J,J,J,fun _ sg _ _=>ac J (vc J J)⟩,
    ⟨⟨[⟨22,fun _=>tT [X ce r2.1,X ce r2.2],some 8⟩],_,1,1,J,⟨(fun _=>J),aX⟩,J,J,J,J,J,fun _ sg _ _=>ac J (vc J J)⟩,
    ⟨⟨[⟨31,fun _=>X ce r2.1,some 9⟩],_,1,1,J,⟨(fun _=>J),aX⟩,J,J,J,J,J,fun _ sg _ _=>ac J (re J)⟩,
    aX⟩⟩⟩⟩⟩⟩⟩⟩⟩⟩⟩⟩ (fun sg=>?_)
   refine(show RG _ _ _ _ [_,_] _ from ?_);refine aP J<|ba<|bg J<|gk J<|cw h J (fun h=>?_) (fun h=>?_)
   ·refine aW J<|aP J<|d8<|ax<|bA J<|ax<|ax<|cE ?_;exact bY (ae r2.2 r1.2 ((sg 6).h 0).1 ((sg 6).h 0).2 h) (bk J)
   ·refine gg<|aC<|K (iu dJ (.head _) (D J))<|bg J<|K (aQ (r:=ce) (ys:=[r2.1]) (xs:=[.tmp 37]) ed bR J J J J J ⟨(D J),aX⟩)<|aU<|cq h fun l2 q_l2 h=>dd bR J J J J ed J J (D J) (D J) q_l2 fun l3 c2=>aU<|cy dJ J aa J (D J) (uH (D J))<|bc<|cP I hN J ?_;exact aY (aN (ih (i+1) bad1 l2 l3 c2 ⟨cI I,h⟩) (bk J))

def CQ tag{R}(h:mp tag=some R):cj bf 74 [bX tag] (ec R):=by
 exact de Tryz.func74 J<|T<|cu<|bO<|aW J<|cb J<|bg J<|aV J (cB J)<|aV J (fun Z=>dB (ca J Z) hI)<|aV J (rf J)<|hG J J J J (fun Z=>jJ J)<|hG J J J J (fun Z=>iK (ca J Z) hI)<|aV J (fun Z=>ll (ca J Z) (fun V=>(ca J (xo Z V))))<|fg J<|bt J<|so h▸bl J J

def Er kinds n l{R}(h:pP kinds n l=some R):cj bf 152 [X ai n,jT l,bp lK kinds] (tT [bX R.1,bX R.2]):=by
 refine de Tryz.func152 J<|T<|cA J<|cx<|cx<|bO<|T<|cx<|bO<|ba<|bg J<|cM ed J<|K (bS hI)<|bO<|am<|br (k:=12) J fun hN=>bP ?_;refine aN (gv (hg:=fun ls i own=>(l.drop i=ls)/\jn kinds n ls own=some R) (Of:=fun _ i own=>[]) (Gf:=fun _ i own=>[(2,bp lK kinds),(3,bp ai n),(7,bX own),(12,jT l),(13,f6 l),(14,bX (i:Int))]) (fun i own h=>?_) (fun e tl ih i own h=>?_) l 0 (0:Int) ⟨J,h⟩) (bk J)
 ·obtain⟨I,h⟩:=h
  refine dt I J<|au<|aW J<|aP J<|T<|cx<|bO ?_;refine aF<|am<|T<|bw fW cJ bR J<|cb J<|aP J<|jH h J (fun h=>?_) (fun h=>?_)
  ·exact T<|k6 oR ft J<|bw oS kj bR J<|f9 J<|dh<|cZ<|so h▸dE J J J
  ·refine T<|bw fW cJ bR J<|cb J<|aP J<|jH h J (fun h=>?_) (fun h=>?_)
   ·exact T<|bn dJ J<|bw gZ dk bR J<|cq h fun e1 q_e1 h=>ej ed bR J q_e1<|f9 J<|dh<|cZ<|so h▸dE J J J
   ·refine T<|bw fW cJ bR J<|da h Hu (CQ _) (bQ J) fun r h=>aP J<|jH h J (fun h=>?_) (fun h=>?_)
    ·refine aC<|cx<|cx<|bc<|aO<|au<|ba<|bg J<|cb J<|bg J<|aV J (cB J)<|aV J (pu J)<|aV J (rf J)<|hG J J J J (fun Z=>jJ J)<|hG J J J J (fun Z=>jJ J)<|hG J J J J (fun Z=>ia (ca J Z) (ca J Z))<|aV J (fun Z=>ll (ca J Z) (fun V=>(ca J (xo Z V))))<|fg J<|cw h J (fun h=>?_) (fun h=>?_)
     ·exact T<|cx<|dh<|ak<|so h▸dE J J J
     ·exact gg<|aW J<|f9 J<|dh<|so h▸dE J J J
    ·refine T<|bw fW cJ bR J<|cb J<|bg J<|aV J (dv fW cJ J J)<|aV J (du bR J J)<|aV J (i6 J)<|fg J<|bg J<|aV J (dv fW cJ J J)<|aV J (du bR J J)<|aV J (i6 J)<|fg J<|aP J<|jH h J (fun h=>?_) (fun h=>?_)
     ·refine aC<|cx<|bc<|aO<|au<|ba<|bg J<|cb J<|bg J<|aV J (cB J)<|aV J (pu J)<|aV J (rf J)<|hG J J J J (fun Z=>jJ J)<|hG J J J J (fun Z=>jJ J)<|hG J J J J (fun Z=>ia (ca J Z) (ca J Z))<|aV J (fun Z=>ll (ca J Z) (fun V=>(ca J (xo Z V))))<|fg J<|cw h J (fun h=>?_) (fun h=>?_)
      ·exact T<|cx<|dh<|ak<|so h▸dE J J J
      ·exact gg<|aW J<|f9 J<|dh<|so h▸dE J J J
     ·refine bH<|aO<|au<|ba<|bg J<|cb J<|bg J<|aV J (cB J)<|aV J (pu J)<|aV J (rf J)<|hG J J J J (fun Z=>jJ J)<|hG J J J J (fun Z=>jJ J)<|hG J J J J (fun Z=>ia (ca J Z) (ca J Z))<|aV J (fun Z=>ll (ca J Z) (fun V=>(ca J (xo Z V))))<|fg J<|cw h J (fun h=>?_) (fun h=>?_)
      ·exact T<|cx<|dh<|ak<|so h▸dE J J J
      ·exact gg<|aW J<|f9 J<|dh<|so h▸dE J J J
 ·obtain⟨I,h⟩:=h
  refine dr I J<|aF<|am<|T<|ej ed bR J (dm I)<|aP J<|am<|aW J<|cb J ?_;refine bg J<|aV J (cB J)<|aV J (cB J)<|aV J (fun Z=>fF (ca J Z) (ca J Z))<|fg J<|aP J<|jH h J (fun h=>?_) (fun h=>?_)
  ·refine bH<|aO<|cP I hN J ?_;exact aY (aN (ih (i+1) own ⟨cI I,h⟩) (bk J))
  ·refine aW J<|cb J<|aP J<|jH h J (fun h=>?_) (fun h=>?_)
   ·refine aC<|bg J<|f9 J<|bc<|aO<|cP I hN J ?_;exact aY (aN (ih (i+1) e ⟨cI I,h⟩) (bk J))
   ·refine aC<|cx<|bc<|aO<|cP I hN J ?_;exact aY (aN (ih (i+1) lM ⟨cI I,h⟩) (bk J))

def xf e kinds{R}(h:qb e kinds=some R):cj bf 132 [X hf e,jT kinds] (tT [bX R.1,bX R.2]):=by
 refine de Tryz.func132 J<|T<|cA J<|cA J<|cx<|cx<|bO<|ba<|bn aL J<|da h BG (sA _) (bQ J) fun r h=>aP J<|aW J<|gk J<|bO ?_;refine jH h J (fun h=>?_) (fun h=>?_)
 ·exact aW J<|cx<|bt J<|ak<|so h▸dE J J J
 ·refine gg<|ba<|bn dJ J<|cM ed J<|K (bS hI)<|bO<|am<|br (k:=16) J fun hN=>bP ?_;refine aN (iw (hg:=fun ls i=>(kinds.drop i=ls)/\oY e kinds ls=some R) (Of:=fun _ i=>[]) (Gf:=fun _ i=>[(2,bp hf e),(3,bp lK kinds),(16,jT kinds),(17,f6 kinds),(18,bX (i:Int))]) (fun i h=>?_) (fun e1 tl ih i h=>?_) kinds 0 ⟨J,h⟩) (bk J)
  ·obtain⟨I,h⟩:=h
   refine dt I J<|au<|ba<|bn aL J<|mM h Gw (xc _) (bQ J) fun r1 h l c=>K (dD ed (.head _) (D J))<|K (bS hI)<|bO<|am ?_;refine d7 (.head _) fun hN1=>bP ?_;refine aN (iw (hg:=fun ls1 i1=>(r1.drop i1=ls1)/\oX e kinds ls1=some R) (Of:=fun _ i1=>[dX ce 3 l c r1]) (Gf:=fun _ i1=>[(2,bp hf e),(3,bp lK kinds),(30,n9 l c r1),(31,f6 r1),(32,bX (i1:Int))]) (fun i1 h=>?_) (fun e2 tl1 ih1 i1 h=>?_) r1 0 ⟨J,h⟩) (bk J)
   ·obtain⟨hx1,h⟩:=h
    refine dt hx1 J<|au<|T<|bn aL J<|K ((show bJ _ _ _ _ ((jW bf DO DL (fun(x:aj×(List Int))=>(pP kinds) x.1 x.2)))from nB (cts:=[bp lK kinds]) (caps:=[.tmp 3]) HI ⟨(D J),aX⟩ (fun x y h=>Er _ _ _ h)))<|da h HJ (Es _ _) (bQ J) fun r2 h=>bM J J<|bM J J<|f9 J<|f9 J<|bc ?_;exact au<|hJ<|aH<|so h▸dE J J J
   ·obtain⟨hx1,h⟩:=h
    refine dr hx1 J<|aF<|am<|T<|K (bI ed bR (.head _) (D J) (D J) (dm hx1))<|K (cD (r:=ce) (i:=(i1:Int)) (foff:=0) bR J J bC J (.head _) (dm hx1) (D J))<|aP J<|aW J<|bn dJ J<|cM ed J ?_;refine K (dB (D J) (D J))<|cw h J (fun h=>?_) (fun h=>?_)
    ·exact T<|cx<|dh<|cZ<|ak<|cZ<|aH<|so h▸dE J J J
    ·refine bH<|cP hx1 hN1 J ?_;exact aY (aN (ih1 (i1+1) ⟨cI hx1,h⟩) (bk J))
  ·obtain⟨I,h⟩:=h
   refine dr I J<|aF<|am<|T<|ej ed bR J (dm I)<|aP J<|aW J<|K (eO (D J) hI)<|bg J ?_;refine aV J (cB J)<|aV J (fun Z=>mf (ca J Z) hI)<|fg J<|cw h J (fun h=>?_) (fun h=>?_)
   ·exact T<|cx<|dh<|cZ<|ak<|cZ<|so h▸dE J J J
   ·refine bH<|cP I hN J ?_;exact aY (aN (ih (i+1) ⟨cI I,h⟩) (bk J))

end Go.Proofs.YtbmmihfagmchaaaGreat

