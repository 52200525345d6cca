import Derived.Test.YtadeokalnbmppaaGreatDoorReT
import Derived.Test.YtadeokalnbmppaaGreatDoorReP1
set_option linter.all false
namespace Go.Proofs.YtadeokalnbmppaaGreatDoor
open Go Tryz
set_option maxRecDepth 100000
def RO e j'{R}(h:va e j'=some R):cN aL 152 [tD cg e,gM j'] (gp R):=by
 refine dL func152 J<|aV<|cR J<|bn<|bA<|aV<|cx jM J<|aQ J<|eG h H1 (zq _ _) (cA J) fun r h=>aQ J<|dq J J<|dq J J<|fX J<|aU J<|aB J<|cz J ?_;exact aQ J<|aj J (cY J)<|aj J (iu J)<|aj J (t8 J)<|cW J J J J (fun H=>kR J)<|cW J J J J (fun H=>fc (br J H) hI)<|aj J (fun H=>nh (br J H) (fun K=>(br J (wY H (sn K)))))<|dx J<|bz J<|so h▸aD J J
def ab2(b:Nat)(ix:OI) c n{R}(h:j7 c n=some R):dj aL 103 [tV (an b 0),tD al n] (kq b c ix) (fun _:OI=>tT [gM R.1,gp R.2]) (fun _=>(kq b c ix)):=by
 refine dj.of func103 J J J fun w0 S0=>?_;refine(show CG _ _ _ [bx (rH bP [(1,ak (ix.h 0).1 (ix.h 0).2 c.j'.length),(2,ak (ix.h 1).1 (ix.h 1).2 c.first.length)]) 95 b c,dM gG 40 (ix.h 0).1 (ix.h 0).2 c.j',dM bY 3 (ix.h 1).1 (ix.h 1).2 c.first] _ from ?_);refine aV<|cR J<|lU bY<|bn<|bA<|aw<|cy h fun e U_ h=>cy h fun e1 s_ h=>cy h fun r F_ h=>?_;refine eE (ts:=[_,_,_,_,_,_,_,_,_,_,_,_,_,_,_,_,_,_,_]) mixed J J
  ⟨fg J J,
  ⟨dy 7 0 J J (aP (Y J)),
  ⟨dy 8 1 J J (qd 1 tH J J J),
  ⟨dy 9 2 J J (fi ug J (.head _) (.tail _ (.head _)) (Y J)),
  ⟨oU 3 J J (mj j8 d8 J J),
  ⟨gH 4 bN J J,
  ⟨eQ 10 3 12 5 J J J (aS qt bK J (nt (Y J)) (Y J) U_),
  ⟨gH 6 bK J J,
  ⟨fg J J,
  ⟨dy 15 8 J J (aP (Y J)),
  ⟨dy 16 9 J J (qd 1 tH J J J),
  ⟨dy 17 10 J J (fi ug J (.head _) (.tail _ (.head _)) (Y J)),
  ⟨oU 3 J J (mj oN jd J J),
  ⟨gH 12 bN J J,
  ⟨eQ 18 11 20 13 J J J (aS qt bK J (nt (Y J)) (Y J) s_),
  ⟨gH 14 bK J J,
  ⟨eQ 14 7 22 15 J J J (aI (r:=oQ) (ys:=[e,e1]) (xs:=[.tmp 14,.tmp 22]) qt bK J J J J J ⟨(Y J),(Y J),aW⟩),
  ⟨dy 23 16 J J (cq ZC (RP _ F_) ⟨(Y J),aW⟩),
  ⟨dy 24 17 J J (yO J),
  aW⟩⟩⟩⟩⟩⟩⟩⟩⟩⟩⟩⟩⟩⟩⟩⟩⟩⟩⟩ ?_
 exact ax<|aB J<|bg tK mK jM J<|aQ J<|eG h ZB (RO _ _) (cA J) fun r1 h=>fX J<|bz J<|ah<|ah<|ah<|so h▸nK (ts:=[gM r,gp r1]) (rvs:=[.tmp 4,.tmp 5]) J J ⟨fb J,fb J,aW⟩ rs J J
def ab1(b:Nat)(ix:OI) c n{R}(h:ja c n=some R):dj aL 104 [tV (an b 0),tD al n] (kq b c ix) (fun _:OI=>tT [gM R.1,gp R.2]) (fun _=>(kq b c ix)):=by
 refine dj.of func104 J J J fun w0 S0=>?_;refine(show CG _ _ _ [bx (rH bP [(1,ak (ix.h 0).1 (ix.h 0).2 c.j'.length),(2,ak (ix.h 1).1 (ix.h 1).2 c.first.length)]) 95 b c,dM gG 40 (ix.h 0).1 (ix.h 0).2 c.j',dM bY 3 (ix.h 1).1 (ix.h 1).2 c.first] _ from ?_);refine aV<|cR J<|lU bY<|bn<|bA<|aw<|cy h fun e U_ h=>cy h fun r F_ h=>?_;refine eE (ts:=[_,_,_,_,_,_,_,_,_,_,_,_,_,_,_,_,_,_,_,_,_]) mixed J J
  ⟨fg J J,
  ⟨dy 6 0 J J (aP (Y J)),
  ⟨dy 7 1 J J (qd 1 tH J J J),
  ⟨dy 8 2 J J (fi ug J (.head _) (.tail _ (.head _)) (Y J)),
  ⟨oU 3 J J (mj j8 d8 J J),
  ⟨gH 4 bN J J,
  ⟨eQ 9 3 11 5 J J J (aS qt bK J (nt (Y J)) (Y J) U_),
  ⟨gH 6 bK J J,
  ⟨oU 3 J J (mj tK mK J J),
  ⟨gH 8 jM J J,
  ⟨fg J J,
  ⟨dy 16 10 J J (aP (Y J)),
  ⟨dy 17 11 J J (qd 1 tH J J J),
  ⟨dy 18 12 J J (fi ug J (.head _) (.tail _ (.head _)) (Y J)),
  ⟨oU 3 J J (mj j8 d8 J J),
  ⟨gH 14 bN J J,
  ⟨eQ 19 13 21 15 J J J (aS qt bK J (nt (Y J)) (Y J) U_),
  ⟨gH 16 bK J J,
  ⟨eQ 15 9 23 17 J J J (cq ZB (RO _ _ F_) ⟨(Y J),(Y J),aW⟩),
  ⟨dy 13 7 J J (yO J),
  ⟨dy 24 18 J J (yO J),
  aW⟩⟩⟩⟩⟩⟩⟩⟩⟩⟩⟩⟩⟩⟩⟩⟩⟩⟩⟩⟩⟩ ?_
 exact ax<|kM<|ah<|ah<|ah<|so h▸nK (ts:=[gM e,gp r]) (rvs:=[.tmp 4,.tmp 5]) J J ⟨fb J,fb J,aW⟩ rs J J
def Ya j' c{R}(h:tE j' c=some R):cN aL 176 [bX c,aY gG j'] (gp R):=by
 exact dL func176 J<|aV<|bn<|bA<|aB J<|M (gA (Y J) hI)<|aQ J<|aC J (cY J)<|aC J (fun H=>m9 bK J J)<|aC J (fM dI J)<|aC J (fun H=>eT (br J H) (br J H))<|fV J<|bz J<|so h▸aD J J
def Ym l j'{R}(h:vQ l j'=some R):cN aL 153 [gM l,gM j'] (gp R):=by
 exact dL func153 J<|aV<|cR J<|bn<|bA<|aB J<|M ((show ck _ _ _ _ ((iM aL GM qw (fun(x:Int)=>(tE j') x)))from kW (cts:=[aY gG j']) (L_:=[.tmp 3]) adN ⟨(Y J),aW⟩ (fun x y h=>Ya _ _ h)))<|eG h TZ (EJ _ _) (cA J) fun r h=>M (gz (Y J))<|bz J<|so h▸aD J J
def Yl a1 j'{R}(h:Bc a1 j'=some R):cN aL 154 [tD eg a1,gM j'] (tT [bX R.1,gp R.2]):=by
 refine dL func154 J<|aV<|cR J<|cM<|bn<|bA<|bc<|bg rq mR bN J<|cz J<|cD h J (fun h=>?_) (fun h=>?_)
 ·refine aw ?_;refine eE (ts:=[_,_,_,_,_,_,_]) mixed J J
   ⟨oU 2 J J (mj xO rK J J),
   ⟨dy 11 0 J J (mj gI dF J J),
   ⟨gH 1 pC J J,
   ⟨dy 13 2 J J (WP oD J),
   ⟨dy 14 3 J J (WI J),
   ⟨zd0 J (zai),
   ⟨dy 15 4 J J (yO J),
   aW⟩⟩⟩⟩⟩⟩⟩ ?_
  exact ax<|kM<|ai<|so h▸ff J J J
 ·refine kp<|aV<|bg xO rK jM J<|aQ J<|eG h H1 (zq _ _) (cA J) fun r h=>aQ J<|dq J J<|dq J J<|fX J<|aU J<|bc<|bg rq mR bN J<|bA<|am ?_;refine aV<|cz J<|aU J<|oS h J (fun h=>?_) (fun h=>?_)
  ·exact aB J<|cz J<|cM<|bz J<|dB<|so h▸ff J J J
  ·refine aV<|cz J<|aU J<|oS h J (fun h=>?_) (fun h=>?_)
   ·exact aB J<|cz J<|aQ J<|aj J (cY J)<|aj J (iu J)<|aj J (t8 J)<|cW J J J J (fun H=>kR J)<|cW J J J J (fun H=>fc (br J H) hI)<|aj J (fun H=>nh (br J H) (fun K=>(br J (wY H (sn K)))))<|dx J<|cM<|bz J<|dB<|so h▸ff J J J
   ·refine fL (h3:=fun x=>vS r x=some R) (Of:=fun x=>[]) (Gf:=fun x=>[(6,bX r.1),(7,bX r.2),(41,gp x)]) (fun x h=>?_) (fun hb=>?_)
    ·skip;refine oS h J (fun h=>?_) (fun h=>?_)
     ·exact aB J<|aQ J<|cz J<|fX J<|bz J<|dB<|so h▸ff J J J
     ·exact bl<|bf<|ax<|aV<|cM<|bn<|bO<|so h▸ff J J J
    ·skip;refine aV<|cz J<|aU J<|oS h J (fun h=>?_) (fun h=>?_)
     ·refine bl ?_;exact bQ (hb (a1.Tag==4) h) (aX J)
     ·refine au<|cz J<|fX J<|bm ?_;exact bQ (hb (a1.Tag==5) h) (aX J)
def ab0(b:Nat)(ix:OI) c n{R}(h:jw c n=some R):dj aL 105 [tV (an b 0),tD al n] (kq b c ix) (fun _:OI=>tT [gM R.1,gp R.2]) (fun _=>(kq b c ix)):=by
 refine dj.of func105 J J J fun w0 S0=>?_;refine(show CG _ _ _ [bx (rH bP [(1,ak (ix.h 0).1 (ix.h 0).2 c.j'.length),(2,ak (ix.h 1).1 (ix.h 1).2 c.first.length)]) 95 b c,dM gG 40 (ix.h 0).1 (ix.h 0).2 c.j',dM bY 3 (ix.h 1).1 (ix.h 1).2 c.first] _ from ?_);refine aV<|cR J<|lU bY<|bn<|bA<|aw<|cy h fun e U_ h=>?_;refine eE (ts:=[_,_,_,_,_,_,_,_,_]) mixed J J
  ⟨fg J J,
  ⟨dy 15 0 J J (aP (Y J)),
  ⟨dy 16 1 J J (qd 1 tH J J J),
  ⟨dy 17 2 J J (fi ug J (.head _) (.tail _ (.head _)) (Y J)),
  ⟨oU 3 J J (mj j8 d8 J J),
  ⟨gH 4 bN J J,
  ⟨eQ 18 3 20 5 J J J (aS qt bK J (nt (Y J)) (Y J) U_),
  ⟨gH 6 bK J J,
  ⟨dy 22 7 J J (yO J),
  aW⟩⟩⟩⟩⟩⟩⟩⟩⟩ ?_
 refine ax<|aV<|bg mf eV bK J<|cm dI J<|M (kZ (Y J) hI)<|aQ J<|aj J (cZ kI fH J J)<|aj J (cG tm J J)<|aj J (fM oP J)<|aj J (fun H=>kZ (br J H) hI)<|dx J<|aQ J<|aj J (cZ mf eV J J)<|aj J (cG bK J J)<|aj J (fM dI J)<|aj J (cZ kI fH J J)<|aj J (cG tm J J)<|aj J (fM oP J)<|aj J (fun H=>nT (br J H) (br J H))<|aj J (fun H=>fR (br J H) hI)<|dx J<|aQ J ?_;refine cy h fun t Z_ h=>aj J (cZ mf eV J J)<|aj J (cG bK J J)<|aj J (cY J) ?_;obtain⟨r,B_,h0t⟩:=og Z_;have q_rg:=fun K=>(B_ K).1;refine aj J (fun H=>cq ad1 (Ym _ _ (q_rg H)) ⟨(br J H),(br J H),aW⟩)<|M (dW (Y J) (fun K=>(br J K)) (fun K=>(B_ K).2) h0t)<|aU J<|bc<|aQ J<|M (gz (Y J))<|cD h J (fun h=>?_) (fun h=>?_)
 ·exact aV<|lU bY<|bn<|bO<|ai<|ah<|ah<|ah<|so h▸nK (ts:=[gM ([]),gp false]) (rvs:=[.tmp 4,.tmp 5]) J J ⟨fb J,fb J,aW⟩ rs J J
 ·refine kp<|aV<|cr false bY 3<|M (bL xq)<|bA<|bc<|bg mf eV bK J<|cm dI J<|M (bH hI)<|bA<|am<|aR (k:=52) J fun hN=>bE ?_;refine aE (qb (h3:=fun ls i out l c1=>(n.I'.drop i=ls)/\jl n e t ls out=some R) (Of:=fun _ i out l c1=>[fa bY 3 l c1 out,bx (rH bP [(1,ak (ix.h 0).1 (ix.h 0).2 c.j'.length),(2,ak (ix.h 1).1 (ix.h 1).2 c.first.length)]) 95 b c,dM gG 40 (ix.h 0).1 (ix.h 0).2 c.j',dM bY 3 (ix.h 1).1 (ix.h 1).2 c.first]) (Gf:=fun _ i out l c1=>[(3,aY al n),(6,gM e),(7,gp t),(8,s5 l c1 out),(52,gM n.I'),(53,jg n.I'),(54,bX (i:Int))]) (fun i out l c1 h=>?_) (fun e1 tl ih i out l c1 h=>?_) n.I' 0 vH none 0 ⟨J,h⟩) (aX J)
  ·obtain⟨I,h⟩:=h;refine dH I J<|ax<|bc<|bg kI fH tm J<|cm oP J<|M (bH hI)<|bA<|am<|aR (k:=67) J fun hN1=>?_;refine bE ?_;refine aE (yB (h3:=fun ls1 i1 g_ l1 c2 ok=>(n.L'.drop i1=ls1)/\gW e ls1 g_ ok=some R) (Of:=fun _ i1 g_ l1 c2 ok=>[fa bY 3 l1 c2 g_,bx (rH bP [(1,ak (ix.h 0).1 (ix.h 0).2 c.j'.length),(2,ak (ix.h 1).1 (ix.h 1).2 c.first.length)]) 95 b c,dM gG 40 (ix.h 0).1 (ix.h 0).2 c.j',dM bY 3 (ix.h 1).1 (ix.h 1).2 c.first]) (Gf:=fun _ i1 g_ l1 c2 ok=>[(6,gM e),(7,gp ok),(8,s5 l1 c2 g_),(67,fI (eg) n.L'),(68,jg n.L'),(69,bX (i1:Int))]) (fun i1 g_ l1 c2 ok h=>?_) (fun e2 tl1 ih1 i1 g_ l1 c2 ok h=>?_) n.L' 0 out l c1 t ⟨J,h⟩) (aX J)
   ·obtain⟨m_,h⟩:=h;refine dH m_ J<|ax<|aB J<|aQ J<|fX J<|bz J<|gQ<|d6 8 J ?_;exact d6 88 J<|d6 4 J<|n6 4 J<|aJ<|ah<|ah<|ah<|so h▸nK (ts:=[gM g_,gp ok]) (rvs:=[.tmp 4,.tmp 5]) J J ⟨fb J,fb J,aW⟩ rs J J
   ·obtain⟨m_,h⟩:=h;refine dG m_ J<|aw<|am<|aV<|dN oP oT J (dE m_)<|aO oT vo J fun b1=>bv oT ae J<|aH 12 J<|bA<|aV<|cx oT J ?_;refine aQ J<|eG h ad0 (Yl _ _) (cA J) fun r1 h=>aQ J<|dq J J<|dq J J<|fX J<|aU J<|au<|aQ J<|aQ J<|M (aI (r:=bY) (ys:=[r1.1]) (xs:=[.tmp 80]) dI bN J J J J J ⟨(Y J),aW⟩)<|cy h fun out2 q_out2 h=>ea bN J J J J dI J J (Y J) (Y J) q_out2 fun l2 c3=>aQ J<|aQ J<|aj J (cY J)<|dx J<|fX J<|fX J<|bm<|bf ?_;refine ax<|au<|M (zin (JR m_ hN1) J)<|aQ J<|bm ?_;exact aT (aE (ih1 (i1+1) out2 l2 c3 (ok&&r1.2) ⟨cV m_,h⟩) (aX J))
  ·obtain⟨I,h⟩:=h;refine dG I J<|aw<|am<|aV<|dN dI bN J (dE I)<|aU J<|au<|aQ J<|aQ J<|aQ J<|cy h fun e3 P_ h=>?_;refine dN dI bN J P_<|M (aI (r:=bY) (ys:=[e3]) (xs:=[.tmp 62]) dI bN J J J J J ⟨(Y J),aW⟩)<|cy h fun out3 q_out3 h=>ea bN J J J J dI J J (Y J) (Y J) q_out3 fun l3 c4=>fX J<|bm<|dg I hN J ?_;exact aT (aE (ih (i+1) out3 l3 c4 ⟨cV I,h⟩) (aX J))
def abZ(b:Nat)(ix:OI) c n{R}(h:iA c n=some R):dj aL 106 [tV (an b 0),tD al n] (kq b c ix) (fun _:OI=>tT [gM R.1,gp R.2]) (fun _=>(kq b c ix)):=by
 refine dj.of func106 J J J fun w0 S0=>?_;refine(show CG _ _ _ [bx (rH bP [(1,ak (ix.h 0).1 (ix.h 0).2 c.j'.length),(2,ak (ix.h 1).1 (ix.h 1).2 c.first.length)]) 95 b c,dM gG 40 (ix.h 0).1 (ix.h 0).2 c.j',dM bY 3 (ix.h 1).1 (ix.h 1).2 c.first] _ from ?_);refine aV<|cR J<|lU bY<|bn<|bA<|aV<|bg qT lH zP J<|cm s7 J<|M (eT (Y J) hI)<|aQ J<|aj J (cZ qT lH J J)<|aj J (cG zP J J)<|aj J (fM s7 J)<|aj J (fun H=>kZ (br J H) hI)<|dx J<|aU J<|aV ?_;refine cr false bY 3<|M (bL xq)<|bA<|bc<|bg qT lH zP J<|cm s7 J<|M (bH hI)<|bA<|am<|aR (k:=23) J fun hN=>bE ?_;refine aE (yB (h3:=fun ls i out l c1 ok=>(n.N'.drop i=ls)/\io c n ls out ok=some R) (Of:=fun _ i out l c1 ok=>[fa bY 3 l c1 out,bx (rH bP [(1,ak (ix.h 0).1 (ix.h 0).2 c.j'.length),(2,ak (ix.h 1).1 (ix.h 1).2 c.first.length)]) 95 b c,dM gG 40 (ix.h 0).1 (ix.h 0).2 c.j',dM bY 3 (ix.h 1).1 (ix.h 1).2 c.first]) (Gf:=fun _ i out l c1 ok=>[(0,tV (an b 0)),(3,aY al n),(6,gp ok),(7,s5 l c1 out),(23,fI (cg) n.N'),(24,jg n.N'),(25,bX (i:Int))]) (fun i out l c1 ok h=>?_) (fun e tl ih i out l c1 ok h=>?_) n.N' 0 vH none 0 ((decide (1<=(n.N'.length:Int)))&&(decide ((n.N'.length:Int)<=16))) ⟨J,h⟩) (aX J)
 ·obtain⟨I,h⟩:=h;refine dH I J<|ax<|aB J<|aQ J<|fX J<|bz J<|gQ<|d6 7 J ?_;exact d6 52 J<|d6 4 J<|n6 4 J<|aJ<|ah<|ah<|ah<|so h▸nK (ts:=[gM out,gp ok]) (rvs:=[.tmp 4,.tmp 5]) J J ⟨fb J,fb J,aW⟩ rs J J
 ·obtain⟨I,h⟩:=h;refine dG I J<|aw<|am<|aV<|dN s7 jM J (dE I)<|aO jM te J fun b1=>bv jM ae J<|aH 9 J<|bA<|aw<|cy h fun e1 s_ h=>cy h fun r F_ h=>?_;refine eE (ts:=[_,_,_,_,_,_,_,_,_,_,_,_,_,_,_]) mixed J J
   ⟨oU 9 J J (m9 jM J J),
   ⟨fg J J,
   ⟨dy 31 1 J J (aP (Y J)),
   ⟨dy 32 2 J J (qd 1 tH J J J),
   ⟨dy 33 3 J J (fi ug J (.tail _ (.head _)) (.tail _ (.tail _ (.head _))) (Y J)),
   ⟨oU 3 J J (mj j8 d8 J J),
   ⟨gH 5 bN J J,
   ⟨eQ 34 4 36 6 J J J (aS qt bK J (nt (Y J)) (Y J) s_),
   ⟨gH 7 bK J J,
   ⟨eQ 30 0 38 8 J J J (cq H1 (zq _ _ F_) ⟨(Y J),(Y J),aW⟩),
   ⟨dy 39 9 J J (kR J),
   ⟨dy 29 10 J J (Sw J J),
   ⟨dy 29 10 J J (Sw J J),
   ⟨dy 40 11 J J (yO J),
   ⟨dy 41 12 J J (yO J),
   aW⟩⟩⟩⟩⟩⟩⟩⟩⟩⟩⟩⟩⟩⟩⟩ ?_
  refine ax<|au<|aQ J<|aQ J<|M (aI (r:=bY) (ys:=[r.1]) (xs:=[.tmp 43]) dI bN J J J J J ⟨(Y J),aW⟩)<|cy h fun g_ q_out1 h=>ea bN J J J J dI J J (Y J) (Y J) q_out1 fun l1 c2=>aQ J<|aQ J<|aj J (cY J)<|aj J (iu J)<|dx J<|fX J<|fX J<|bm<|dg I hN J ?_;exact aT (aE (ih (i+1) g_ l1 c2 (ok&&(r.2==0)) ⟨cV I,h⟩) (aX J))
def abY(b:Nat)(ix:OI) c n{R}(h:gX c n=some R):dj aL 107 [tV (an b 0),tD al n] (kq b c ix) (fun _:OI=>tT [gM R.1,gp R.2]) (fun _=>(kq b c ix)):=by
 refine dj.of func107 J J J fun w0 S0=>?_;refine(show CG _ _ _ [bx (rH bP [(1,ak (ix.h 0).1 (ix.h 0).2 c.j'.length),(2,ak (ix.h 1).1 (ix.h 1).2 c.first.length)]) 95 b c,dM gG 40 (ix.h 0).1 (ix.h 0).2 c.j',dM bY 3 (ix.h 1).1 (ix.h 1).2 c.first] _ from ?_);refine aV<|cR J<|lU bY<|bn<|bA<|aw<|cy h fun e U_ h=>?_;refine eE (ts:=[_,_,_,_,_,_,_,_,_,_]) mixed J J
  ⟨fg J J,
  ⟨dy 6 0 J J (aP (Y J)),
  ⟨dy 7 1 J J (qd 1 tH J J J),
  ⟨dy 8 2 J J (fi ug J (.head _) (.tail _ (.head _)) (Y J)),
  ⟨oU 3 J J (mj j8 d8 J J),
  ⟨gH 4 bN J J,
  ⟨eQ 9 3 11 5 J J J (aS qt bK J (nt (Y J)) (Y J) U_),
  ⟨gH 6 bK J J,
  ⟨dy 13 7 J J (yO J),
  ⟨zd0 J (zab),
  aW⟩⟩⟩⟩⟩⟩⟩⟩⟩⟩ ?_
 exact ax<|kM<|ah<|ah<|ah<|so h▸nK (ts:=[gM e,gp true]) (rvs:=[.tmp 4,.tmp 5]) J J ⟨fb J,fb J,aW⟩ rs J J
def abX(b:Nat)(ix:OI) c n{R}(h:ju c n=some R):dj aL 108 [tV (an b 0),tD al n] (kq b c ix) (fun _:OI=>tT [gM R.1,gp R.2]) (fun _=>(kq b c ix)):=by
 refine dj.of func108 J J J fun w0 S0=>?_;refine(show CG _ _ _ [bx (rH bP [(1,ak (ix.h 0).1 (ix.h 0).2 c.j'.length),(2,ak (ix.h 1).1 (ix.h 1).2 c.first.length)]) 95 b c,dM gG 40 (ix.h 0).1 (ix.h 0).2 c.j',dM bY 3 (ix.h 1).1 (ix.h 1).2 c.first] _ from ?_);refine aV<|cR J<|lU bY<|bn<|bA<|aw<|cy h fun e U_ h=>cy h fun e1 s_ h=>?_;refine eE (ts:=[_,_,_,_,_,_,_,_,_,_,_,_,_,_,_,_,_,_]) mixed J J
  ⟨fg J J,
  ⟨dy 12 0 J J (aP (Y J)),
  ⟨dy 13 1 J J (qd 1 tH J J J),
  ⟨dy 14 2 J J (fi ug J (.head _) (.tail _ (.head _)) (Y J)),
  ⟨oU 3 J J (mj j8 d8 J J),
  ⟨gH 4 bN J J,
  ⟨eQ 15 3 17 5 J J J (aS qt bK J (nt (Y J)) (Y J) U_),
  ⟨gH 6 bK J J,
  ⟨fg J J,
  ⟨dy 20 8 J J (aP (Y J)),
  ⟨dy 21 9 J J (qd 1 tH J J J),
  ⟨dy 22 10 J J (fi ug J (.head _) (.tail _ (.head _)) (Y J)),
  ⟨oU 3 J J (mj oN jd J J),
  ⟨gH 12 bN J J,
  ⟨eQ 23 11 25 13 J J J (aS qt bK J (nt (Y J)) (Y J) s_),
  ⟨gH 14 bK J J,
  ⟨dy 19 7 J J (yO J),
  ⟨dy 27 15 J J (yO J),
  aW⟩⟩⟩⟩⟩⟩⟩⟩⟩⟩⟩⟩⟩⟩⟩⟩⟩⟩ ?_
 refine ax<|bc<|aQ J<|cm dI J<|aQ J<|cm dI J<|M (jV (Y J) (Y J))<|cD h J (fun h=>?_) (fun h=>?_)
 ·exact aV<|lU bY<|bn<|bO<|ai<|ah<|ah<|ah<|so h▸nK (ts:=[gM ([]),gp false]) (rvs:=[.tmp 4,.tmp 5]) J J ⟨fb J,fb J,aW⟩ rs J J
 ·refine kp<|aB J<|t7 h Ge (xv _) (cA J) fun r h l c1=>aU J<|aV<|bn<|bA<|bc<|aQ J<|cm dI J<|M (bH hI)<|bA<|am ?_;refine aR (k:=35) J fun hN=>bE ?_;refine aE (ox (h3:=fun ls i out ok=>(e1.drop i=ls)/\eU ls i out ok=some R) (Of:=fun _ i out ok=>[fa bY 3 l c1 out,bx (rH bP [(1,ak (ix.h 0).1 (ix.h 0).2 c.j'.length),(2,ak (ix.h 1).1 (ix.h 1).2 c.first.length)]) 95 b c,dM gG 40 (ix.h 0).1 (ix.h 0).2 c.j',dM bY 3 (ix.h 1).1 (ix.h 1).2 c.first]) (Gf:=fun _ i out ok=>[(8,s5 l c1 out),(9,gp ok),(35,gM e1),(36,jg e1),(37,bX (i:Int))]) (fun i out ok h=>?_) (fun e2 tl ih i out ok h=>?_) e1 0 r true ⟨J,h⟩) (aX J)
  ·obtain⟨I,h⟩:=h;refine dH I J<|ax<|aB J<|aQ J<|fX J<|bz J<|gQ<|d6 8 J ?_;exact d6 65 J<|d6 4 J<|n6 4 J<|aJ<|ah<|ah<|ah<|so h▸nK (ts:=[gM out,gp ok]) (rvs:=[.tmp 4,.tmp 5]) J J ⟨fb J,fb J,aW⟩ rs J J
  ·obtain⟨I,h⟩:=h;refine dG I J<|aw<|am<|aB J<|dN dI bN J (dE I)<|fX J<|aU J ?_;refine fL (h3:=fun g_=>kF (eU tl) i e2 ok g_=some R) (Of:=fun g_=>[fa bY 3 l c1 g_,bx (rH bP [(1,ak (ix.h 0).1 (ix.h 0).2 c.j'.length),(2,ak (ix.h 1).1 (ix.h 1).2 c.first.length)]) 95 b c,dM gG 40 (ix.h 0).1 (ix.h 0).2 c.j',dM bY 3 (ix.h 1).1 (ix.h 1).2 c.first]) (Gf:=fun g_=>[(8,s5 l c1 g_),(9,gp ok),(10,bX (i:Int)),(11,bX e2),(35,gM e1),(36,jg e1),(37,bX (i:Int))]) (fun g_ h=>?_) (fun hb=>?_)
   ·skip;refine au<|aQ J<|aQ J<|cy h fun t Z_ h=>aj J (cY J)<|aj J (cY J) ?_;obtain⟨e3,B_,h0t⟩:=og Z_;have q_e3g:=fun K=>(B_ K).1;refine aj J (fun H=>c9 dI bN (.head _) (br J H) (br J H) (q_e3g H))<|aj J (fun H=>il (r:=bY) (i:=(i:Int)) (J_:=0) bN J J bC J (.head _) (q_e3g H) (br J H))<|aj J (cY J)<|aj J (fun H=>fc (br J H) (br J H))<|aj J (t8 J)<|cW J J J J (fun H=>kR J)<|cW J J J J (fun H=>fc (br J H) hI)<|aj J (fun H=>nh (br J H) (fun K=>(br J (wY H (sn K)))))<|M (dW (Y J) (fun K=>(br J K)) (fun K=>(B_ K).2) h0t)<|fX J<|bm<|dg I hN J ?_;exact aT (aE (ih (i+1) g_ t ⟨cV I,h⟩) (aX J))
   ·skip;refine aB J<|aQ J<|cy h fun e4 q_e4 h=>M (c9 dI bN (.head _) (Y J) (Y J) q_e4)<|M (il (r:=bY) (i:=(i:Int)) (J_:=0) bN J J bC J (.head _) q_e4 (Y J))<|cz J<|cD h J (fun h=>?_) (fun h=>?_)
    ·refine au<|aQ J<|aQ J<|aQ J<|M (c9 dI bN (.head _) (Y J) (Y J) q_e4)<|cy h fun st R_ h=>pw bN J ae J q_e4 (so R_) (Y J) (Y J)<|ir (gS (so R_)) 8 J<|ir (gS (so R_)) 42 J<|ir (gS (so R_)) 47 J<|bm ?_;exact bQ (hb st h) (aX J)
    ·refine bl ?_;exact bQ (hb out h) (aX J)
def Yk in1 o{R}(h:nN in1 o=some R):cN aL 156 [tD kz o,aY gG in1] (gp R):=by
 exact dL func156 J<|aV<|cR J<|bn<|bA<|aV<|bg Gz AA bN J<|M (gA (Y J) hI)<|aQ J<|aC J (cZ Gz AA J J)<|aC J (cG bN J J)<|aC J (fun H=>m9 bK J J)<|aC J (fM dI J)<|aC J (fun H=>eT (br J H) (br J H))<|fV J<|bz J<|so h▸aD J J
def X7 s f{R}(h:kx s f=some R):cN aL 180 [fI (kz) s,(iM aL Su qw (fun(x:px)=>f x))] (bX R):=by
 refine dL func180 J<|aV<|cM<|bA<|bc<|aQ J<|cm Bt J<|M (bH hI)<|bA<|am<|aR (k:=6) J fun hN=>bE ?_;refine aE (fj (h3:=fun ls i=>(s.drop i=ls)/\eY f ls i=some R) (Of:=fun _ i=>[]) (Gf:=fun _ i=>[(0,fI (kz) s),(1,(iM aL Su qw (fun(x:px)=>f x))),(7,jg s),(8,bX (i:Int))]) (fun i h=>?_) (fun e tl ih i h=>?_) s 0 ⟨J,h⟩) (aX J)
 ·obtain⟨I,h⟩:=h;exact dH I J<|ax<|aV<|jK<|so h▸aD J J
 ·obtain⟨I,h⟩:=h;refine dG I J<|aw<|am<|aB J<|aU J<|aB J<|aQ J<|aQ J<|vA Bt Fc J (dE I) ?_;refine cx Fc J<|cy h fun r F_ h=>M (kE (args:=Su) (res:=FY) (f:=(fun(x:px)=>f x)) (x:=((e):px)) (Y J) F_ ⟨(Y J),aW⟩)<|cD h J (fun h=>?_) (fun h=>?_)
  ·exact aB J<|bz J<|dB<|ai<|dB<|so h▸aD J J
  ·refine bl<|dg I hN J ?_;exact aT (aE (ih (i+1) ⟨cV I,h⟩) (aX J))
