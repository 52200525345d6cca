import Derived.Test.YtadeokalnbmppaaGreatDoorReT
import Derived.Test.YtadeokalnbmppaaGreatDoorReP2
set_option linter.all false
namespace Go.Proofs.YtadeokalnbmppaaGreatDoor
open Go Tryz EffOK
set_option maxRecDepth 100000
def RN s f{R}(h:eZ s f=some R):cN aL 157 [fI (kz) s,(iM aL Su qw (fun(x:px)=>f x))] (gp R):=by
 exact dL func157 J<|aV<|bn<|bA<|aB J<|aQ J<|eG h adJ (X7 _ _) (cA J) fun r h=>M (eT (Y J) hI)<|bz J<|so h▸aD J J
def abW(b:Nat)(ix:OI) c n{R}(h:jv c n=some R):dj aL 109 [tV (an b 0),tD al n] (kq b c ix) (fun _:OI=>tT [gM R.1,gp R.2]) (fun _=>(kq b c ix)):=by
 refine dj.of func109 J J J fun w0 S0=>?_;refine(show CG _ _ _ [bx (rH bP [(1,ak (ix.h 0).1 (ix.h 0).2 c.j'.length),(2,ak (ix.h 1).1 (ix.h 1).2 c.first.length)]) 95 b c,dM gG 40 (ix.h 0).1 (ix.h 0).2 c.j',dM bY 3 (ix.h 1).1 (ix.h 1).2 c.first] _ from ?_);refine aV<|cR J<|lU bY<|bn<|bA<|aw<|cy h fun e U_ h=>?_;refine lw 9 [tc (tV (an b 0)),tc (tV (an b 0)),tc (tV (an b 1)),tc (tO gG (ix.h 0).1 (ix.h 0).2 c.j'),tc (aY bY n.A),tc (bX n.A),tc (aY gG e),tc (gM e),([8],fun s=>tV (an ((s.getD 0 rs).h 0).2 0))] [false,false,false,false,false,false,false,false,true] [fun _=>[bx (rH bP [(1,ak (ix.h 0).1 (ix.h 0).2 c.j'.length),(2,ak (ix.h 1).1 (ix.h 1).2 c.first.length)]) 95 b c,dM gG 40 (ix.h 0).1 (ix.h 0).2 c.j',dM bY 3 (ix.h 1).1 (ix.h 1).2 c.first],fun sg=>[bx gG 40 ((sg 8).h 0).2 ([]),bx (rH bP [(1,ak (ix.h 0).1 (ix.h 0).2 c.j'.length),(2,ak (ix.h 1).1 (ix.h 1).2 c.first.length)]) 95 b c,dM gG 40 (ix.h 0).1 (ix.h 0).2 c.j',dM bY 3 (ix.h 1).1 (ix.h 1).2 c.first]] J mixed J J J J J
  ⟨⟨[⟨0,fun _=>tV (an b 0),none⟩],_,0,1,J,⟨(fun _=>J),aW⟩,J,J,J,J,J,fun _ sg _ _=>aa J (kR J)⟩,
  ⟨⟨[⟨9,fun _=>tV (an b 0),some 0⟩],_,0,1,J,⟨(fun _=>J),aW⟩,J,J,J,J,J,fun _ sg _ _=>aa J (aP (Y J))⟩,
  ⟨⟨[⟨10,fun _=>tV (an b 0),some 1⟩],_,0,1,J,⟨(fun _=>J),aW⟩,J,J,J,J,J,fun _ sg _ _=>aa J (qd 1 tH J J J)⟩,
  ⟨⟨[⟨11,fun _=>tV (an b 1),some 2⟩],_,0,1,J,⟨(fun _=>J),aW⟩,J,J,J,J,J,Ee (fun sg=>aa J (fi ug J (.head _) (.tail _ (.head _)) (Y J))) (vI (fun sg=>aa J (fi ug J (.tail _ (.head _)) (.tail _ (.tail _ (.head _))) (Y J))))⟩,
  ⟨⟨[⟨3,fun _=>aY al n,none⟩],_,0,1,J,⟨(fun _=>J),aW⟩,J,J,J,J,J,fun _ sg _ _=>aa J (mj j8 d8 J J)⟩,
  ⟨⟨[⟨13,fun _=>aY bY n.A,some 4⟩],_,0,1,J,⟨(fun _=>J),aW⟩,J,J,J,J,J,fun _ sg _ _=>aa J (m9 bN J J)⟩,
  ⟨⟨[⟨12,fun _=>tO oQ (ix.h 0).1 (ix.h 0).2 c.j',some 3⟩,⟨14,fun _=>tD bY n.A,some 5⟩],_,0,1,J,⟨(fun _=>J),(fun _=>J),aW⟩,J,J,J,J,J,fun _ sg _ _=>aa J (aS qt bK J (nt (Y J)) (Y J) U_)⟩,
  ⟨⟨[⟨15,fun _=>aY oQ e,some 6⟩],_,0,1,J,⟨(fun _=>J),aW⟩,J,J,J,J,J,fun _ sg _ _=>aa J (m9 bK J J)⟩,
  ⟨⟨[],_,J,aW,J,J,J,fun sg=>cL J (km (r:=oQ) (x:=[]) bK (fun _=>⟨none,0,J,eX _,kY _,.inl J⟩))⟩,
  aW⟩⟩⟩⟩⟩⟩⟩⟩⟩ (fun sg=>?_)
 refine(show RG _ _ _ _ [_,_,_,_] _ from ?_);refine bv bK ae J<|aH 6 J<|bA<|aV<|M ((show ck _ _ _ _ ((iM aL Su qw (fun(x:px)=>(nN e) x)))from kW (cts:=[aY gG e]) (L_:=[.tmp 6]) adZ ⟨(Y J),aW⟩ (fun x y h=>Yk _ _ h)))<|aU J<|aV<|bg rX m8 F2 J<|cm Bt J<|M (kZ (Y J) hI)<|aQ J<|cy h fun t Z_ h=>aj J (cZ rX m8 J J)<|aj J (cG F2 J J)<|aj J (cY J) ?_;obtain⟨r,B_,h0t⟩:=og Z_;have q_rg:=fun K=>(B_ K).1;refine aj J (fun H=>cq ZA (RN _ _ (q_rg H)) ⟨(br J H),(br J H),aW⟩)<|aj J (wj J)<|M (dW (Y J) (fun K=>(br J K)) (fun K=>(B_ K).2) h0t)<|aQ J<|aj J (cZ vT pD J J)<|aj J (cG bN J J)<|aj J (fun H=>eT (br J H) hI)<|dx J<|aQ J<|aj J (cZ vT pD J J)<|aj J (cG bN J J)<|aj J (fun H=>kZ (br J H) hI)<|dx J<|aU J<|aw ?_;refine eE (ts:=[_,_,_,_,_,_,_,_,_,_,_,_,_,_,_,_,_,_,_]) mixed J J
  ⟨oU 6 J J (m9 bK J J),
  ⟨fg J J,
  ⟨dy 40 1 J J (kR J),
  ⟨rn 0 41 2 J J J (cX J J J J (fun H=>kR J)),
  ⟨hY 42 3 41 2 J J J (cX J J J J (fun H=>aP (br J H))),
  ⟨hY 43 4 41 2 J J J (cX J J J J (fun H=>bS (n:=1) tH J (br J H) J)),
  ⟨hY 44 5 41 2 J J J (cX J J J J (fun H=>fi ug J (.head _) (.tail _ (.head _)) (br J H))),
  ⟨hY 45 6 41 2 J J J (cX J J J J (fun H=>iY qt (nt (br J H)))),
  ⟨rn 0 41 2 J J J (cX J J J J (fun H=>kR J)),
  ⟨hY 47 8 41 2 J J J (cX J J J J (fun H=>aP (br J H))),
  ⟨hY 48 9 41 2 J J J (cX J J J J (fun H=>bS (n:=0) PZ J (br J H) J)),
  ⟨hY 49 10 41 2 J J J (cX J J J J (fun H=>bS (n:=0) tL J (br J H) J)),
  ⟨hY 50 11 41 2 J J J (cX J J J J (fun H=>ay (r:=rH bP [(1,ak (ix.h 0).1 (ix.h 0).2 c.j'.length),(2,ak (ix.h 1).1 (ix.h 1).2 c.first.length)]) (x:=c) o5 J J (jD (gj zi mJ)) (.head _) (br J H))),
  ⟨hY 51 12 41 2 J J J (cX J J J J (fun H=>iY kw (br J H))),
  ⟨hY 52 13 41 2 J J J (cX J J J J (fun H=>ij (br J H) hI)),
  ⟨w8 46 7 53 14 41 2 J J J J (cX J J J J (fun H=>fc (br J H) (br J H))),
  ⟨eQ 41 2 54 15 J J J (zpa J J),
  ⟨dy 39 0 J J (yO J),
  ⟨dy 55 16 J J (yO J),
  aW⟩⟩⟩⟩⟩⟩⟩⟩⟩⟩⟩⟩⟩⟩⟩⟩⟩⟩⟩ ?_
 exact ax<|kM<|ah<|ah<|ah<|so h▸nK (ts:=[gM e,gp (((t&&(decide (CU<=n.Z')))&&(decide (n.Z'<=2147483647)))&&((c.j'.length:Int)==(IntKind.i64.wrap ((c.T_.u'.length:Int)-1))))]) (rvs:=[.tmp 4,.tmp 5]) J J ⟨fb J,fb J,aW⟩ rs J J
def YH n{R}(h:wB n=some R):cN aL 110 [tD al n] (gp R):=by
 refine dL func110 J<|aV<|cR J<|bn<|bA<|aV<|bg oM gC bN J<|cz J<|aQ J<|aj J (cZ oL gY J J)<|aj J (cG bK J J)<|aj J (fM dI J)<|aj J (iu J)<|dx J<|aQ J<|aj J (cZ Qe HK J J)<|aj J (cG I0 J J)<|aj J (wj J)<|dx J<|aQ J ?_;refine aj J (cZ tK mK J J)<|aj J (fun H=>dP gI J dF J (br J H))<|aj J (cG pC J J)<|aj J (fM oD J)<|aj J (iu J)<|dx J<|aQ J<|aj J (cZ mf eV J J)<|aj J (cG bK J J)<|aj J (fM dI J)<|aj J (iu J)<|dx J<|aQ J<|aj J (cZ kI fH J J)<|aj J (cG tm J J)<|aj J (fM oP J)<|aj J (iu J)<|dx J<|aQ J<|aj J (cZ qT lH J J)<|aj J (cG zP J J)<|aj J (fM s7 J)<|aj J (iu J)<|dx J ?_;exact aQ J<|aj J (cZ rX m8 J J)<|aj J (cG F2 J J)<|aj J (fM Bt J)<|aj J (iu J)<|dx J<|aQ J<|aj J (cZ vT pD J J)<|aj J (cG bN J J)<|aj J (iu J)<|dx J<|bz J<|so h▸aD J J
def YG n{R}(h:wC n=some R):cN aL 111 [tD al n] (tD al R):=by
 refine dL func111 J<|aV<|tU (Y J) J fun b=>aO dc fC J fun b1=>bA<|bc<|bI 0 jy J<|M (ay bN J J dA (.tail _ (.head _)) (Y J))<|bA<|am<|aV<|cz J<|aU J<|oS h J (fun h=>?_) (fun h=>?_)
 ·exact au<|bI 3 oM J<|bM<|dZ bN J Ci J (Y J) hI<|bI 4 oL J<|dZ bK J yW J (Y J) ID<|bm<|bf<|ax<|aV<|M (ay (x:=(ac.mk n.Op n.A n.B 0 ([]) n.Left n.f_ n.I' n.L' n.N' n.Y' n.Z')) dc J J bC (.head _) (Y J))<|bM<|bv dc ae J<|aH 2 J<|bO<|aJ<|so h▸gF J dc J J J
 ·refine aV<|cz J<|aU J<|oS h J (fun h=>?_) (fun h=>?_)
  ·exact au<|M (dl jM aaS te J)<|bI 5 Qe J<|bM<|dZ I0 J Pg J (Y J) hB<|bI 6 tK J<|bv jM Ch J<|bm<|bf<|ax<|aV<|M (ay (x:=(ac.mk n.Op n.A n.B n.M' n.U' false ⟨[]⟩ n.I' n.L' n.N' n.Y' n.Z')) dc J J bC (.head _) (Y J))<|bM<|bv dc ae J<|aH 2 J<|bO<|aJ<|so h▸gF J dc J J J
  ·refine aV<|cz J<|aU J<|oS h J (fun h=>?_) (fun h=>?_)
   ·exact au<|M (dl jM aaS te J)<|bI 6 tK J<|bM<|bv jM Ch J<|bm<|bf<|ax<|aV<|M (ay (x:=(ac.mk n.Op n.A n.B n.M' n.U' n.Left ⟨[]⟩ n.I' n.L' n.N' n.Y' n.Z')) dc J J bC (.head _) (Y J))<|bM<|bv dc ae J<|aH 2 J<|bO<|aJ<|so h▸gF J dc J J J
   ·refine aV<|cz J<|aU J<|oS h J (fun h=>?_) (fun h=>?_)
    ·exact au<|bI 7 mf J<|bM<|dZ bK J G7 J (Y J) ID<|bI 8 kI J<|dZ tm J G6 J (Y J) ID<|bm<|bf<|ax<|aV<|M (ay (x:=(ac.mk n.Op n.A n.B n.M' n.U' n.Left n.f_ ([]) ([]) n.N' n.Y' n.Z')) dc J J bC (.head _) (Y J))<|bM<|bv dc ae J<|aH 2 J<|bO<|aJ<|so h▸gF J dc J J J
    ·refine aV<|cz J<|aU J<|oS h J (fun h=>?_) (fun h=>?_)
     ·exact au<|bI 9 qT J<|bM<|dZ zP J Pf J (Y J) ID<|bm<|bf<|ax<|aV<|M (ay (x:=(ac.mk n.Op n.A n.B n.M' n.U' n.Left n.f_ n.I' n.L' ([]) n.Y' n.Z')) dc J J bC (.head _) (Y J))<|bM<|bv dc ae J<|aH 2 J<|bO<|aJ<|so h▸gF J dc J J J
     ·refine aV<|cz J<|aU J<|oS h J (fun h=>?_) (fun h=>?_)
      ·exact au<|bI 10 rX J<|bM<|dZ F2 J Fg J (Y J) ID<|bI 11 vT J<|dZ bN J Mq J (Y J) hI<|bm<|bf<|ax<|aV<|M (ay (x:=(ac.mk n.Op n.A n.B n.M' n.U' n.Left n.f_ n.I' n.L' n.N' ([]) 0)) dc J J bC (.head _) (Y J))<|bM<|bv dc ae J<|aH 2 J<|bO<|aJ<|so h▸gF J dc J J J
      ·exact bl<|bf<|ax<|aV<|M (ay dc J J bC (.tail _ (.head _)) (Y J))<|bv dc ae J<|aH 2 J<|bO<|aJ<|so h▸gF J dc J J J
def Yj op{R}(h:xn op=some R):cN aL 158 [bX op] (bX R):=by
 refine dL func158 J<|aV<|cM<|bA<|bc<|aQ J<|bA<|am<|aV<|cz J<|aU J<|oS h J (fun h=>?_) (fun h=>?_)
 ·exact aV<|jK<|dB<|so h▸aD J J
 ·refine fL (h3:=fun x=>tF x=some R) (Of:=fun x=>[]) (Gf:=fun x=>[(6,gp x)]) (fun x h=>?_) (fun hb=>?_)
  ·skip;refine oS h J (fun h=>?_) (fun h=>?_)
   ·exact aV<|jK<|dB<|so h▸aD J J
   ·exact bl<|bf<|ax<|aV<|jK<|so h▸aD J J
  ·skip;refine aV<|cz J<|aU J<|oS h J (fun h=>?_) (fun h=>?_)
   ·refine bl ?_;exact bQ (hb (op==2) h) (aX J)
   ·refine au<|cz J<|fX J<|bm ?_;exact bQ (hb (op==7) h) (aX J)
def abV(b:Nat)(ix:OI) c i{R}(h:mQ c i=some R):dj aL 112 [tV (an b 0),bX i] (kq b c ix) (fun _:OI=>tT [bX R.1,gp R.2]) (fun _=>(kq b c ix)):=by
 refine dj.of func112 J J J fun w0 S0=>?_;refine(show CG _ _ _ [bx (rH bP [(1,ak (ix.h 0).1 (ix.h 0).2 c.j'.length),(2,ak (ix.h 1).1 (ix.h 1).2 c.first.length)]) 95 b c,dM gG 40 (ix.h 0).1 (ix.h 0).2 c.j',dM bY 3 (ix.h 1).1 (ix.h 1).2 c.first] _ from ?_);refine aV<|cM<|bn<|bA<|aB J<|M (aP (Y J))<|bI 0 PZ J<|bI 0 tL J<|M (ay (r:=rH bP [(1,ak (ix.h 0).1 (ix.h 0).2 c.j'.length),(2,ak (ix.h 1).1 (ix.h 1).2 c.first.length)]) (x:=c) o5 J J (jD (gj zi mJ)) (.head _) (Y J))<|aQ J<|cy h fun e U_ h=>dN kw dc J U_<|aO dc fC J fun b1=>bv dc ae J<|aH 6 J<|bA<|aw<|aw ?_;refine au<|bg jy dA bN J<|eG h adY (Yj _) (cA J) fun r h=>bA<|am<|aV<|cz J<|aU J<|oS h J (fun h=>?_) (fun h=>?_)
 ·refine aw ?_;refine eE (ts:=[_,_,_,_,_,_,_,_,_,_,_]) mixed J J
   ⟨fg J J,
   ⟨oU 6 J J (mj j8 d8 J J),
   ⟨gH 1 bN J J,
   ⟨dy 22 2 J J (WI J),
   ⟨dy 23 3 J J (kR J),
   ⟨rn 6 24 4 J J J (cX J J J J (fun H=>mj oN jd J J)),
   ⟨hY 25 5 24 4 J J J (cX J J J J (fun H=>eJ bN J J (br J H))),
   ⟨hY 26 6 24 4 J J J (cX J J J J (fun H=>fc (br J H) hI)),
   ⟨eQ 24 4 27 7 J J J (zpa J J),
   ⟨dy 20 0 J J (yO J),
   ⟨dy 28 8 J J (yO J),
   aW⟩⟩⟩⟩⟩⟩⟩⟩⟩⟩⟩ ?_
  exact ax<|kM<|dB<|ah<|ah<|ah<|so h▸nK (ts:=[bX i,gp ((e.A==CU)&&(e.B==CU))]) (rvs:=[.tmp 4,.tmp 5]) J J ⟨fb J,fb J,aW⟩ rs J J
 ·refine aV<|cz J<|aU J<|oS h J (fun h=>?_) (fun h=>?_)
  ·refine bc<|bg j8 d8 bN J<|aQ J<|M (ij (Y J) hI)<|M (jV (Y J) (Y J))<|aQ J<|aC J (cZ oN jd J J)<|aC J (cG bN J J)<|aC J (uV J)<|fV J<|aQ J<|aC J (cY J)<|aC J (iu J)<|fV J<|cD h J (fun h=>?_) (fun h=>?_)
   ·exact aV<|cM<|bn<|bO<|ai<|dB<|ah<|ah<|ah<|so h▸nK (ts:=[bX 0,gp false]) (rvs:=[.tmp 4,.tmp 5]) J J ⟨fb J,fb J,aW⟩ rs J J
   ·refine kp<|aw<|cy h fun e1 s_ h=>?_;refine eE (ts:=[_,_,_,_,_,_,_,_,_,_]) mixed J J
     ⟨fg J J,
     ⟨dy 45 0 J J (aP (Y J)),
     ⟨dy 46 1 J J (qd 2 AE J J J),
     ⟨dy 47 2 J J (fi bK J (.head _) (.tail _ (.tail _ (.head _))) (Y J)),
     ⟨oU 6 J J (mj j8 d8 J J),
     ⟨gH 4 bN J J,
     ⟨eQ 48 3 50 5 J J J (aS dI bN J (nt (Y J)) (Y J) s_),
     ⟨gH 6 bN J J,
     ⟨dy 52 7 J J (yO J),
     ⟨zd0 J (zab),
     aW⟩⟩⟩⟩⟩⟩⟩⟩⟩⟩ ?_
    exact ax<|kM<|dB<|ah<|ah<|ah<|so h▸nK (ts:=[bX e1,gp true]) (rvs:=[.tmp 4,.tmp 5]) J J ⟨fb J,fb J,aW⟩ rs J J
  ·refine bl<|bf<|ax<|aw<|aw<|cy h fun t Z_ h=>?_;obtain⟨e2,B_,h0t⟩:=og Z_;have q_e2g:=fun K=>(B_ K).1;refine eE (ts:=[_,_,_,_,_,_,_,_,_,_,_,_,_,_,_,_,_,_,_,_,_,_,_,_,_,_,_,_]) mixed J J
    ⟨oU 6 J J (mj oN jd J J),
    ⟨gH 0 bN J J,
    ⟨fg J J,
    ⟨dy 55 2 J J (ij (Y J) hI),
    ⟨eQ 54 1 56 3 J J J (jV (Y J) (Y J)),
    ⟨dy 57 4 J J (kR J),
    ⟨rn 1 58 5 J J J (ga J J J J (fun H=>kR J)),
    ⟨hY 59 6 58 5 J J J (ga J J J J (fun H=>fc (br J H) hI)),
    ⟨eQ 58 5 60 7 J J J (ZU J J),
    ⟨dy 61 8 J J (kR J),
    ⟨rn 6 62 9 J J J (ga J J J J (fun H=>mj j8 d8 J J)),
    ⟨hY 63 10 62 9 J J J (ga J J J J (fun H=>eJ bN J J (br J H))),
    ⟨rn 0 62 9 J J J (ga J J J J (fun H=>kR J)),
    ⟨hY 65 12 62 9 J J J (ga J J J J (fun H=>aP (br J H))),
    ⟨hY 66 13 62 9 J J J (ga J J J J (fun H=>bS (n:=2) AE J (br J H) J)),
    ⟨hY 67 14 62 9 J J J (ga J J J J (fun H=>fi bK J (.head _) (.tail _ (.tail _ (.head _))) (br J H))),
    ⟨rn 6 62 9 J J J (ga J J J J (fun H=>mj oN jd J J)),
    ⟨hY 69 16 62 9 J J J (ga J J J J (fun H=>eJ bN J J (br J H))),
    ⟨w8 68 15 70 17 62 9 J J J J (ga J J J J (fun H=>aS dI bN J (nt (br J H)) (br J H) (q_e2g H))),
    ⟨hY 71 18 62 9 J J J (ga J J J J (fun H=>eJ bN J J (br J H))),
    ⟨hY 72 19 62 9 J J J (ga J J J J (fun H=>ij (br J H) hI)),
    ⟨w8 64 11 73 20 62 9 J J J J (ga J J J J (fun H=>jV (br J H) (br J H))),
    ⟨eQ 62 9 74 21 J J J (iz (Y J) (fun K=>(br J (sn K))) (fun K=>(B_ K).2) h0t),
    ⟨dy 75 22 J J (kR J),
    ⟨rn 6 76 23 J J J (ga J J J J (fun H=>mj j8 d8 J J)),
    ⟨hY 77 24 76 23 J J J (ga J J J J (fun H=>eJ bN J J (br J H))),
    ⟨hY 78 25 76 23 J J J (ga J J J J (fun H=>gA (br J H) hI)),
    ⟨eQ 76 23 79 26 J J J (ZU J J),
    aW⟩⟩⟩⟩⟩⟩⟩⟩⟩⟩⟩⟩⟩⟩⟩⟩⟩⟩⟩⟩⟩⟩⟩⟩⟩⟩⟩⟩ ?_
   refine ax<|oS h J (fun h=>?_) (fun h=>?_)
   ·exact aV<|cM<|bn<|bO<|ai<|ah<|ah<|ah<|so h▸nK (ts:=[bX 0,gp false]) (rvs:=[.tmp 4,.tmp 5]) J J ⟨fb J,fb J,aW⟩ rs J J
   ·refine kp<|aw<|cy h fun e3 P_ h=>?_;refine eE (ts:=[_,_,_,_,_,_,_,_,_,_]) mixed J J
     ⟨fg J J,
     ⟨dy 81 0 J J (aP (Y J)),
     ⟨dy 82 1 J J (qd 2 AE J J J),
     ⟨dy 83 2 J J (fi bK J (.head _) (.tail _ (.tail _ (.head _))) (Y J)),
     ⟨oU 6 J J (mj j8 d8 J J),
     ⟨gH 4 bN J J,
     ⟨eQ 84 3 86 5 J J J (aS dI bN J (nt (Y J)) (Y J) P_),
     ⟨gH 6 bN J J,
     ⟨dy 88 7 J J (yO J),
     ⟨zd0 J (zab),
     aW⟩⟩⟩⟩⟩⟩⟩⟩⟩⟩ ?_
    exact ax<|kM<|ah<|ah<|ah<|so h▸nK (ts:=[bX e3,gp true]) (rvs:=[.tmp 4,.tmp 5]) J J ⟨fb J,fb J,aW⟩ rs J J
def V8(b:Nat)(ix:OI)(c:aF):DZ aL 101 (fun(x:Int×Bool)=>[bX x.1,gp x.2]) (fun _=>oY c) (kq b) (kq b c ix) [aY (rT (tV (an b 0))) ()]:=by
 refine DZ.of func101 J J J fun Sg D_ s R h hx yv hy e he w0 S0 B hB=>?_
 replace h:oY c D_ s=some R:=h
 refine(show CG _ _ _ [e,bx (rH bP [(1,ak (ix.h 0).1 (ix.h 0).2 c.j'.length),(2,ak (ix.h 1).1 (ix.h 1).2 c.first.length)]) 95 b c,dM gG 40 (ix.h 0).1 (ix.h 0).2 c.j',dM bY 3 (ix.h 1).1 (ix.h 1).2 c.first] _ from ?_);refine aV<|wO (CL (fun y:(aF->ac->Option (((List Int)×Bool)×aF))=>dK aL Bv (kq b) E7 y)) vG J fun b1=>M (kg sY (Y J)) ?_;refine vC ((show ck _ _ _ _ (dK aL Bv (kq b) E7 Z6)from mP aeG (Y J) (fun c x R h i=>by
   obtain⟨r,D,rfl⟩:=CN.1 h;exact pu (Ob:=fun j=>kq b c j) (i:=i) (ab3 _ i c _ D)))) J ?_
 refine fe (γ:=(fun y:(aF->ac->Option (((List Int)×Bool)×aF))=>dK aL Bv (kq b) E7 y)) (y:=Z6) CP (dV ld) (Y J) (nQ hI) (Y J) fun os=>M (kg sY (Y J)) ?_;refine vC ((show ck _ _ _ _ (dK aL Bv (kq b) E7 Z5)from mP aeF (Y J) (fun c x R h i=>by
   obtain⟨r,D,rfl⟩:=CN.1 h;exact pu (Ob:=fun j=>kq b c j) (i:=i) (ab2 _ i c _ D)))) J ?_
 refine fe (γ:=(fun y:(aF->ac->Option (((List Int)×Bool)×aF))=>dK aL Bv (kq b) E7 y)) (y:=Z5) CP (dV ld) (Y J) (nQ hI) (Y J) fun os1=>M (kg sY (Y J)) ?_;refine vC ((show ck _ _ _ _ (dK aL Bv (kq b) E7 aaa)from mP aeE (Y J) (fun c x R h i=>by
   obtain⟨r,D,rfl⟩:=CN.1 h;exact pu (Ob:=fun j=>kq b c j) (i:=i) (ab1 _ i c _ D)))) J ?_
 refine fe (γ:=(fun y:(aF->ac->Option (((List Int)×Bool)×aF))=>dK aL Bv (kq b) E7 y)) (y:=aaa) CP (dV ld) (Y J) (nQ hI) (Y J) fun os2=>M (kg sY (Y J)) ?_;refine vC ((show ck _ _ _ _ (dK aL Bv (kq b) E7 Z7)from mP aeD (Y J) (fun c x R h i=>by
   obtain⟨r,D,rfl⟩:=CN.1 h;exact pu (Ob:=fun j=>kq b c j) (i:=i) (ab0 _ i c _ D)))) J ?_
 refine fe (γ:=(fun y:(aF->ac->Option (((List Int)×Bool)×aF))=>dK aL Bv (kq b) E7 y)) (y:=Z7) CP (dV ld) (Y J) (nQ hI) (Y J) fun os3=>M (kg sY (Y J)) ?_;refine vC ((show ck _ _ _ _ (dK aL Bv (kq b) E7 aab)from mP aeC (Y J) (fun c x R h i=>by
   obtain⟨r,D,rfl⟩:=CN.1 h;exact pu (Ob:=fun j=>kq b c j) (i:=i) (abZ _ i c _ D)))) J ?_
 refine fe (γ:=(fun y:(aF->ac->Option (((List Int)×Bool)×aF))=>dK aL Bv (kq b) E7 y)) (y:=aab) CP (dV ld) (Y J) (nQ hI) (Y J) fun os4=>M (kg sY (Y J)) ?_;refine vC ((show ck _ _ _ _ (dK aL Bv (kq b) E7 aad)from mP aeB (Y J) (fun c x R h i=>by
   obtain⟨r,D,rfl⟩:=CN.1 h;exact pu (Ob:=fun j=>kq b c j) (i:=i) (abY _ i c _ D)))) J ?_
 refine fe (γ:=(fun y:(aF->ac->Option (((List Int)×Bool)×aF))=>dK aL Bv (kq b) E7 y)) (y:=aad) CP (dV ld) (Y J) (nQ hI) (Y J) fun os5=>M (kg sY (Y J)) ?_;refine vC ((show ck _ _ _ _ (dK aL Bv (kq b) E7 Z9)from mP aeA (Y J) (fun c x R h i=>by
   obtain⟨r,D,rfl⟩:=CN.1 h;exact pu (Ob:=fun j=>kq b c j) (i:=i) (abX _ i c _ D)))) J ?_
 refine fe (γ:=(fun y:(aF->ac->Option (((List Int)×Bool)×aF))=>dK aL Bv (kq b) E7 y)) (y:=Z9) CP (dV ld) (Y J) (nQ hI) (Y J) fun os6=>M (kg sY (Y J)) ?_;refine vC ((show ck _ _ _ _ (dK aL Bv (kq b) E7 Z8)from mP aez (Y J) (fun c x R h i=>by
   obtain⟨r,D,rfl⟩:=CN.1 h;exact pu (Ob:=fun j=>kq b c j) (i:=i) (abW _ i c _ D)))) J ?_
 refine fe (γ:=(fun y:(aF->ac->Option (((List Int)×Bool)×aF))=>dK aL Bv (kq b) E7 y)) (y:=Z8) CP (dV ld) (Y J) (nQ hI) (Y J) fun os7=>aQ J<|aU J<|aV<|M (kg sY (Y J))<|M (aP (Y J))<|bI 0 PZ J<|bI 0 tL J<|M (ay (r:=rH bP [(1,ak (ix.h 0).1 (ix.h 0).2 c.j'.length),(2,ak (ix.h 1).1 (ix.h 1).2 c.first.length)]) (x:=c) o5 J J (jD (gj zi mJ)) (.tail _ (.tail _ (.head _))) (Y J))<|cm kw J<|M (bH hI)<|bA<|am<|aR (k:=33) J fun hN=>bE<|uC<|uC<|uC<|fK<|uC ?_;refine aE (wS (h3:=fun ls i e1 s1 ob l c1 l1 c2=>(c.T_.u'.drop i=ls)/\hx s1 e1/\bZ D_ ls i s1 ob=some R) (Of:=fun _ i e1 s1 ob l c1 l1 c2=>[e1,sr (CL (fun y:(aF->ac->Option (((List Int)×Bool)×aF))=>dK aL Bv (kq b) E7 y)) vG b1 none os7 W0,bx (rH bP [(1,ak l c1 ob.j'.length),(2,ak l1 c2 ob.first.length)]) 95 b ob,dM gG 40 l c1 ob.j',dM bY 3 l1 c2 ob.first]) (Gf:=fun _ i e1 s1 ob l c1 l1 c2=>[(0,tV yv),(1,aY (rT (tV (an b 0))) ()),(3,tV (ni b1)),(33,fI (al) c.T_.u'),(34,jg c.T_.u'),(35,bX (i:Int))]) (fun i e1 s1 ob l c1 l1 c2 h=>?_) (fun e2 tl ih i e1 s1 ob l c1 l1 c2 h=>?_) c.T_.u' 0 e s c (ix.h 0).1 (ix.h 0).2 (ix.h 1).1 (ix.h 1).2 ⟨J,⟨he,h⟩⟩) (aX J)
 ·obtain⟨I,h⟩:=h;obtain⟨he1,h⟩:=h;exact dH I J<|bj<|aJ<|aM<|aM<|aM<|aM<|so h▸Ur J he1 (D8 [(l,c1),(l1,c2)]) J
 ·obtain⟨I,h⟩:=h;obtain⟨he1,h⟩:=h;refine dG I J<|aw<|am<|aB J<|dN kw dc J (dE I)<|aO dc fC J fun b2=>fX J<|bv dc ae J<|aH 5 J<|bA<|aw ?_;refine au<|aQ J<|bg jy dA bN J<|M (MQ (γ:=(fun y:(aF->ac->Option (((List Int)×Bool)×aF))=>dK aL Bv (kq b) (fun(x:(List Int)×Bool)=>tT [tD oQ x.1,tD rB x.2]) y)) (z:=fun _ _=>none) CP (dV ld) ack (fun _=>Ej) (.tail _ (.head _)) (Y J) (nQ (Y J)))<|aQ J<|dq J J<|dq J J<|fX J<|aU J<|aB J<|aQ J<|cy h fun t Z_ h=>aj J (fun H=>m9 dc J J) ?_;obtain⟨r,B_,h0t⟩:=og Z_;have q_rg:=fun K=>(B_ K).1;refine aj J (fun H=>cq aex (YG _ (q_rg H)) ⟨(br J H),aW⟩) ?_;obtain⟨r1,B_⟩:=WL (fun K=>(B_ K).2);have q_r1g:=fun K=>(B_ K).1;refine aj J (fun H=>cq aey (YH _ (q_r1g H)) ⟨(br J H),aW⟩)<|M (dW (Y J) (fun K=>(br J K)) (fun K=>(B_ K).2) h0t)<|aU J ?_;refine Uk (h3:=fun ok v_ l2 c3 l3 c4=>fS D_ (bZ D_ tl) i e2 s1 ok v_=some R) (Of:=fun ok v_ l2 c3 l3 c4=>[e1,sr (CL (fun y:(aF->ac->Option (((List Int)×Bool)×aF))=>dK aL Bv (kq b) E7 y)) vG b1 none os7 W0,bx (rH bP [(1,ak l2 c3 v_.j'.length),(2,ak l3 c4 v_.first.length)]) 95 b v_,dM gG 40 l2 c3 v_.j',dM bY 3 l3 c4 v_.first]) (Gf:=fun ok v_ l2 c3 l3 c4=>[(0,tV yv),(1,aY (rT (tV (an b 0))) ()),(3,tV (ni b1)),(4,bX (i:Int)),(5,aY al e2),(6,dK aL Bv (kq b) E7 ((jC W0 e2.Op).getD (fun _ _=>none))),(8,gp ok),(33,fI (al) c.T_.u'),(34,jg c.T_.u'),(35,bX (i:Int))]) (fun ok v_ l2 c3 l3 c4 h=>?_) (fun hb=>?_)
  ·skip;refine aV<|lU bY<|bA ?_;refine EU (h3:=fun ok1 j' ob2 l4 c5 l5 c6=>jm D_ (bZ D_ tl) i s1 ok1 j' ob2=some R) (Of:=fun ok1 j' ob2 l4 c5 l5 c6=>[e1,sr (CL (fun y:(aF->ac->Option (((List Int)×Bool)×aF))=>dK aL Bv (kq b) E7 y)) vG b1 none os7 W0,bx (rH bP [(1,ak l4 c5 ob2.j'.length),(2,ak l5 c6 ob2.first.length)]) 95 b ob2,dM gG 40 l4 c5 ob2.j',dM bY 3 l5 c6 ob2.first]) (Gf:=fun ok1 j' ob2 l4 c5 l5 c6=>[(0,tV yv),(1,aY (rT (tV (an b 0))) ()),(3,tV (ni b1)),(4,bX (i:Int)),(8,gp ok1),(10,gM j'),(33,fI (al) c.T_.u'),(34,jg c.T_.u'),(35,bX (i:Int))]) (fun ok1 j' ob2 l4 c5 l5 c6 h=>?_) (fun K1=>?_)
   ·skip;refine aB J<|aQ J<|aj J (cY J)<|aj J (fM dI J)<|aj J (fun H=>kZ (br J H) hI)<|dx J<|aU J<|aw<|cy h fun l6 q_l6 h=>?_;refine lw 8 [tc (tV (an b 0)),tc (tV (an b 0)),tc (tV (an b 0)),tc (tV (an b 1)),tc (tO gG l4 c5 ob2.j'),tc (gM j'),tc (fI (gG) ([j'])),([7],fun s=>tO gG ((s.getD 0 rs).h 0).1 ((s.getD 0 rs).h 0).2 l6)] [false,false,false,false,false,false,false,true] [fun _=>[e1,sr (CL (fun y:(aF->ac->Option (((List Int)×Bool)×aF))=>dK aL Bv (kq b) E7 y)) vG b1 none os7 W0,bx (rH bP [(1,ak l4 c5 ob2.j'.length),(2,ak l5 c6 ob2.first.length)]) 95 b ob2,dM gG 40 l4 c5 ob2.j',dM bY 3 l5 c6 ob2.first],fun sg=>[dM gG 40 ((sg 7).h 0).1 ((sg 7).h 0).2 l6,e1,sr (CL (fun y:(aF->ac->Option (((List Int)×Bool)×aF))=>dK aL Bv (kq b) E7 y)) vG b1 none os7 W0,bx (rH bP [(1,ak l4 c5 ob2.j'.length),(2,ak l5 c6 ob2.first.length)]) 95 b ob2,dM bY 3 l5 c6 ob2.first]] J mixed J J J J J
     ⟨⟨[⟨1,fun _=>aY (rT (tV (an b 0))) (),none⟩],_,0,1,J,⟨(fun _=>J),aW⟩,J,J,J,J,J,fun _ sg _ _=>aa J (kg sY (Y J))⟩,
     ⟨⟨[⟨1,fun _=>aY (rT (tV (an b 0))) (),none⟩],_,0,0,J,⟨(fun _=>J),aW⟩,J,J,J,J,J,fun _ sg _ _=>aa J (kg sY (Y J))⟩,
     ⟨⟨[⟨84,fun _=>tV (an b 0),some 1⟩],_,0,0,J,⟨(fun _=>J),aW⟩,J,J,J,J,J,fun _ sg _ _=>aa J (aP (Y J))⟩,
     ⟨⟨[⟨85,fun _=>tV (an b 0),some 2⟩],_,0,0,J,⟨(fun _=>J),aW⟩,J,J,J,J,J,fun _ sg _ _=>aa J (qd 1 tH J J J)⟩,
     ⟨⟨[⟨86,fun _=>tV (an b 1),some 3⟩],_,0,0,J,⟨(fun _=>J),aW⟩,J,J,J,J,J,vI (fun sg=>aa J (fi ug J (.tail _ (.tail _ (.head _))) (.tail _ (.tail _ (.tail _ (.head _)))) (Y J)))⟩,
     ⟨⟨[⟨10,fun _=>tD oQ j',none⟩],_,0,0,J,⟨(fun _=>J),aW⟩,J,J,J,J,J,fun _ sg _ _=>aa J (kR J)⟩,
     ⟨⟨[⟨88,fun _=>tD oQ j',some 5⟩],_,0,0,J,⟨(fun _=>J),aW⟩,J,J,J,J,J,fun _ sg _ _=>aa J (aI (r:=oQ) (ys:=[j']) (xs:=[.tmp 88]) qt bK J J J J J ⟨(Y J),aW⟩)⟩,
     ⟨⟨[⟨87,fun _=>tO oQ l4 c5 ob2.j',some 4⟩,⟨89,fun _=>tD (eW oQ) ([j']),some 6⟩],_,J,⟨(fun _=>J),(fun _=>J),aW⟩,J,J,J,fun sg=>cL J (fr3 (vg bK J J J J qt J (Y J) (Y J) q_l6))⟩,
     aW⟩⟩⟩⟩⟩⟩⟩⟩ (fun sg=>?_)
    refine(show RG _ _ _ _ [_,_,_,_,_] _ from ?_);refine M (aP (Y J))<|bI 1 tH J<|mD (fr3 (sx (hs' :=[(1,ak ((sg 7).h 0).1 ((sg 7).h 0).2 l6.length),(2,ak l5 c6 ob2.first.length)]) (u:=ak ((sg 7).h 0).1 ((sg 7).h 0).2 l6.length) ug J J Kx J ⟨.inl ⟨J,J,J⟩,.inr ⟨J,J⟩,aW⟩ (Y J) (nt (Y J)) (Ei (Y J)))) fun i1=>?_;refine(show RG _ _ _ _ [_,_,_,_,_] _ from ?_);refine bA<|aB J<|aQ J<|aQ J<|gi<|cy h fun r2 q_r2 h=>H4 hy he1 q_r2 (Y J) ⟨(Y J),(Y J),aW⟩ J fun e3 he2=>M (gz (Y J))<|aQ J<|aC J (cY J)<|aC J (wj J)<|fV J<|cD h J (fun h=>?_) (fun h=>?_)
    ·exact kM<|dB<|ai<|py<|aM<|aJ<|aM<|aM<|aM<|aM<|so h▸Oy J he2 (D8 [(((sg 7).h 0).1,((sg 7).h 0).2),(l5,c6)]) J
    ·refine bl<|dg I hN J<|eb<|aM<|aM<|eb<|eb ?_;exact aT (aE (ih (i+1) e3 r2.2 ({ob2 with j':=l6}:aF) ((sg 7).h 0).1 ((sg 7).h 0).2 l5 c6 ⟨cV I,⟨he2,h⟩⟩) (aX J))
   ·skip;refine aB J<|cD h J (fun h=>?_) (fun h=>?_)
    ·refine au<|aQ J<|cx dc J<|cy h fun r3 q_r3 h=>nI (fr4 (fr4 (fr4 (zt (args:=Bv) (Ob:=kq b) (res:=E7) (f:=((jC W0 e2.Op).getD (fun _ _=>none))) (x:=v_) (y:=((e2):ac)) (R:=r3) (i:=(D8 [(l2,c3),(l3,c4)])) (xs:=[.tmp 73]) _ J (Y J) q_r3 ⟨(Y J),aW⟩ (fun _=>J))))) J fun i2=>?_;refine(show RG _ _ _ _ [_,_,_,_,_] ((74,tT [gM r3.1.1,gp r3.1.2])::_)from ?_);refine aQ J<|dq J J<|dq J J<|fX J<|fX J<|bm<|ah<|ah<|ah<|eb<|eb ?_;exact bQ (K1 r3.1.2 r3.1.1 r3.2 (i2.h 0).1 (i2.h 0).2 (i2.h 1).1 (i2.h 1).2 h) (aX J)
    ·refine bl ?_;exact bQ (K1 ok ([]) v_ l2 c3 l3 c4 h) (aX J)
  ·skip;refine aB J<|cD h J (fun h=>?_) (fun h=>?_)
   ·refine aV<|cM<|bA<|aV<|M (kg sY (Y J))<|aQ J<|cy h fun r4 q_r4 h=>nI (fr4 (fr4 (fr4 (jo (xs:=[.tmp 55,.tmp 56]) (ts:=[tV (an b 0),bX (i:Int)]) (kq b ob (D8 [(l,c1),(l1,c2)])) _ J aew (abV b (D8 [(l,c1),(l1,c2)]) ob _ q_r4) ⟨(Y J),(Y J),aW⟩ (fun _=>J))))) J fun i3=>?_;refine(show RG _ _ _ _ [_,_,_,_,_] ((57,tT [bX r4.1,gp r4.2])::_)from ?_);refine aQ J<|dq J J<|dq J J<|fX J<|aU J<|cy h fun l7 q_l7 h=>?_;refine lw 8 [tc (tV (an b 0)),tc (tV (an b 0)),tc (tV (an b 0)),tc (tV (an b 2)),tc (tO bY l1 c2 ob.first),tc (bX r4.1),tc (gM ([r4.1])),([7],fun s=>tO bY ((s.getD 0 rs).h 0).1 ((s.getD 0 rs).h 0).2 l7)] [false,false,false,false,false,false,false,true] [fun _=>[bx (rH bP [(1,ak l c1 ob.j'.length),(2,ak l1 c2 ob.first.length)]) 95 b ob,dM gG 40 l c1 ob.j',dM bY 3 l1 c2 ob.first,e1,sr (CL (fun y:(aF->ac->Option (((List Int)×Bool)×aF))=>dK aL Bv (kq b) E7 y)) vG b1 none os7 W0],fun sg1=>[dM bY 3 ((sg1 7).h 0).1 ((sg1 7).h 0).2 l7,bx (rH bP [(1,ak l c1 ob.j'.length),(2,ak l1 c2 ob.first.length)]) 95 b ob,dM gG 40 l c1 ob.j',e1,sr (CL (fun y:(aF->ac->Option (((List Int)×Bool)×aF))=>dK aL Bv (kq b) E7 y)) vG b1 none os7 W0]] J mixed J J J J J
     ⟨⟨[⟨1,fun _=>aY (rT (tV (an b 0))) (),none⟩],_,0,1,J,⟨(fun _=>J),aW⟩,J,J,J,J,J,fun _ sg1 _ _=>aa J (kg sY (Y J))⟩,
     ⟨⟨[⟨1,fun _=>aY (rT (tV (an b 0))) (),none⟩],_,0,0,J,⟨(fun _=>J),aW⟩,J,J,J,J,J,fun _ sg1 _ _=>aa J (kg sY (Y J))⟩,
     ⟨⟨[⟨61,fun _=>tV (an b 0),some 1⟩],_,0,0,J,⟨(fun _=>J),aW⟩,J,J,J,J,J,fun _ sg1 _ _=>aa J (aP (Y J))⟩,
     ⟨⟨[⟨62,fun _=>tV (an b 0),some 2⟩],_,0,0,J,⟨(fun _=>J),aW⟩,J,J,J,J,J,fun _ sg1 _ _=>aa J (qd 2 AE J J J)⟩,
     ⟨⟨[⟨63,fun _=>tV (an b 2),some 3⟩],_,0,0,J,⟨(fun _=>J),aW⟩,J,J,J,J,J,vI (fun sg1=>aa J (fi bK J (.head _) (.tail _ (.tail _ (.head _))) (Y J)))⟩,
     ⟨⟨[⟨9,fun _=>tD bY r4.1,none⟩],_,0,0,J,⟨(fun _=>J),aW⟩,J,J,J,J,J,fun _ sg1 _ _=>aa J (kR J)⟩,
     ⟨⟨[⟨65,fun _=>tD bY r4.1,some 5⟩],_,0,0,J,⟨(fun _=>J),aW⟩,J,J,J,J,J,fun _ sg1 _ _=>aa J (aI (r:=bY) (ys:=[r4.1]) (xs:=[.tmp 65]) dI bN J J J J J ⟨(Y J),aW⟩)⟩,
     ⟨⟨[⟨64,fun _=>tO bY l1 c2 ob.first,some 4⟩,⟨66,fun _=>tD oQ ([r4.1]),some 6⟩],_,J,⟨(fun _=>J),(fun _=>J),aW⟩,J,J,J,fun sg1=>cL J (fr2 (vg bN J J J J dI J (Y J) (Y J) q_l7))⟩,
     aW⟩⟩⟩⟩⟩⟩⟩⟩ (fun sg1=>?_)
    refine(show RG _ _ _ _ [_,_,_,_,_] _ from ?_);refine M (aP (Y J))<|bI 2 AE J<|mD (fr1 (sx (hs' :=[(1,ak l c1 ob.j'.length),(2,ak ((sg1 7).h 0).1 ((sg1 7).h 0).2 l7.length)]) (u:=ak ((sg1 7).h 0).1 ((sg1 7).h 0).2 l7.length) bK J J Kw J ⟨.inr ⟨J,J⟩,.inl ⟨J,J,J⟩,aW⟩ (Y J) (nt (Y J)) (Ei (Y J)))) fun i4=>?_;refine(show RG _ _ _ _ [_,_,_,_,_] _ from ?_);refine bm<|bj<|ah<|ah<|eb<|eb ?_;exact bQ (hb r4.2 ({ob with first:=l7}:aF) l c1 ((sg1 7).h 0).1 ((sg1 7).h 0).2 h) (aX J)
   ·refine bl ?_;exact bQ (hb t ob l c1 l1 c2 h) (aX J)
