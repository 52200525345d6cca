/- di of this claim: P20. -/
import Derived.Test.YtfhhakidodmdfaaGreatDoorJcT
import Derived.Test.YtfhhakidodmdfaaGreatDoorJcP19
set_option linter.all false
namespace Go.Proofs.YtfhhakidodmdfaaGreatDoor
open Go
set_option maxRecDepth 100000

theorem O6(v:ac){R:Bool}(h:pP v=some R):aR aU 142 [tD af v] (hJ R):=by
 refine aR.of Tryz.func142 J J J fun w0 S0=>av<|zo J (gi J)<|zo J (jU)<|aq<|av<|zo J (bh au J J)<|bo h fun r q_r h=>zo J (ap Cz (rm _ q_r) ⟨(ht J),aL⟩)<|aE J<|co J J (fun hg=>bX cz br J J)<|co J J (fun hg=>bj cg J J (bm J hg))<|co J J (fun hg=>cd (bm J hg) hI)<|co J J (fun hg=>bJ (bm J hg))<|fg J J J J (fun hg=>bX cz br J J)<|fg J J J J (fun hg=>bj cg J J (bm J hg))<|fg J J J J (fun hg=>cd (bm J hg) hI)<|co J J (fun hg=>pT (bm J hg) (fun hb=>(bm J (qD hg (qo hb)))))<|zo J (pH J J)<|bg J<|aQ ?_;refine ax<|aj ?_;cases so h;exact aH J J

theorem O5(a1:cu){R:ac×Int}(h:vy a1=some R):aR aU 144 [tD bU a1] (tT [tD af R.1,bM R.2]):=by
 refine aR.of Tryz.func144 J J J fun w0 S0=>av<|zo J (gi J)<|aP (r:=af) (x:=d3) au (fun _=>aJ _) J fun b=>zo J (bW)<|aq<|av<|zo J (bh fS J J)<|bo h fun r q_r h=>zo J (ap Xx (OY _ q_r) ⟨(ht J),aL⟩)<|aE J<|zo J (dX J J)<|zo J (dX J J)<|zo J (dX J J)<|bg J<|bg J<|bg J<|aq<|ah<|ah ?_;refine aA<|aE J<|zo J (cx (ht J))<|aq<|ce h J (fun h=>?_) (fun h=>?_)
 ·refine av<|zo J (bB (y:=d3) au gW aJ (J))<|am au J ai J (ht J) (ht J)<|zo J (bW)<|aq<|aj<|ae<|aF 2 J ?_;cases so h;exact be J J ⟨aN au J J J,aK J,aL⟩
 ·refine df<|av<|aE J<|aE J<|zo J (bB (y:=(⟨(4:Int),r.1,r.2.1,[]⟩:ac)) au gW aJ (⟨_,_,_,_,_,J,jV,J,hI,⟨_,_,_,_,_,J,lL,J,(ht J),⟨_,_,_,_,_,J,wn,J,(ht J),J⟩⟩⟩))<|am au J ai J (ht J) (ht J)<|zo J (bW)<|aq<|aj<|aF 2 J ?_;cases so h;exact be J J ⟨aN au J J J,aK J,aL⟩

theorem YK(s:ac)(v:ac){R:ac×Int}(h:qZ s v=some R):aR aU 80 [tD af s,tD af v] (tT [tD af R.1,bM R.2]):=by
 refine aR.of Tryz.func80 J J J fun w0 S0=>av<|zo J (gi J)<|zo J (gi J)<|aP (r:=af) (x:=d3) au (fun _=>aJ _) J fun b=>zo J (bW)<|aq<|ah<|aC<|av<|zo J (bh au J J)<|bo h fun r q_r h=>zo J (ap Cz (rm _ q_r) ⟨(ht J),aL⟩)<|zo J (cx (ht J))<|aE J<|bo h fun t q_t h=>dD J J (fun hg=>bh au J J) ?_
 obtain⟨r1,h1t,h0t⟩:=og q_t
 have q_r1g:=fun hb=>(h1t hb).1
 refine dD J J (fun hg=>ap Cz (rm _ (q_r1g hg)) ⟨(bm J hg),aL⟩)<|dD J J (fun hg=>cx (bm J hg))<|zo J (eO (ht J) (fun hb=>(bm J (qo hb))) (fun hb=>(h1t hb).2) h0t)<|bg J<|aq<|ce h J (fun h=>?_) (fun h=>?_)
 ·refine av<|zo J (bB (y:=d3) au gW aJ (J))<|am au J ai J (ht J) (ht J)<|zo J (bW)<|aq<|aj ?_;refine aB (ae ?_);refine aF 4 J ?_;cases so h;exact be J J ⟨aN au J J J,aK J,aL⟩
 ·refine av<|zo J (bh au J J)<|bo h fun r2 q_r2 h=>zo J (ap XD (O6 _ q_r2) ⟨(ht J),aL⟩)<|zo J (cx (ht J))<|aE J<|bo h fun t1 q_t1 h=>dD J J (fun hg=>bh au J J) ?_
  obtain⟨r3,h1t1,h0t1⟩:=og q_t1
  have q_r3g:=fun hb=>(h1t1 hb).1
  refine dD J J (fun hg=>ap S9 (I4 _ (q_r3g hg)) ⟨(bm J hg),aL⟩)<|dD J J (fun hg=>cx (bm J hg))<|zo J (eO (ht J) (fun hb=>(bm J (qo hb))) (fun hb=>(h1t1 hb).2) h0t1)<|bg J<|aq<|ce h J (fun h=>?_) (fun h=>?_)
  ·refine av<|zo J (bB (y:=d3) au gW aJ (J))<|am au J ai J (ht J) (ht J)<|zo J (bW)<|aq<|aj ?_;refine aB (ae ?_);refine aF 4 J ?_;cases so h;exact be J J ⟨aN au J J J,aK J,aL⟩
  ·refine av<|zo J (bX cz br J J)<|zo J (bh cg J J)<|zo J (hM J)<|bg J<|aq<|ce h J (fun h=>?_) (fun h=>?_)
   ·refine av<|zo J (bh au J J)<|am au J ai J (ht J) (ht J)<|zo J (bW)<|aq<|aj ?_;refine aB (ae ?_);refine aF 4 J ?_;cases so h;exact be J J ⟨aN au J J J,aK J,aL⟩
   ·refine av<|zo J (bX cz br J J)<|zo J (bh cg J J)<|zo J (hM J)<|bg J<|aq<|ce h J (fun h=>?_) (fun h=>?_)
    ·refine av<|zo J (bX eE bY J J)<|zo J (bh uq J J)<|bo h fun r4 q_r4 h=>zo J (ap zN (rG _ q_r4) ⟨(ht J),aL⟩)<|bo h fun r5 q_r5 h=>zo J (ap XC (O5 _ q_r5) ⟨(ht J),aL⟩)<|zo J (dX J J)<|zo J (dX J J)<|am au J ai J (ht J) (ht J)<|bg J<|aq<|aj ?_;refine aB (ae ?_);refine aF 4 J ?_;cases so h;exact be J J ⟨aN au J J J,aK J,aL⟩
    ·refine bA<|aw<|ax<|ah<|bo h fun r6 q_r6 h=>bo h fun r7 q_r7 h=>bo h fun r8 q_r8 h=>bo h fun r9 q_r9 h=>?_
     refine my 12 (ts:=[bN cj s.N,bM s.N,bN ni s.U,tD ni s.U,tD bU r6,bN cj v.N,bM v.N,tD bU r7,tD bU r8,tT [tD af r9.1,bM r9.2],tD af r9.1,bM r9.2]) mixed J J J
      ⟨dB 2 J J J (bX eE bY J J),
      ⟨bT 41 0 J J J (bh uq J J),
      ⟨dB 2 J J J (bX pD hY J J),
      ⟨bT 43 2 J J J (bh fU J J),
      ⟨cK 42 1 44 3 J J J J (ap Pp (DZ _ _ q_r6) ⟨(ht J),(ht J),aL⟩),
      ⟨dB 3 J J J (bX eE bY J J),
      ⟨bT 46 5 J J J (bh uq J J),
      ⟨bT 47 6 J J J (ap zN (rG _ q_r7) ⟨(ht J),aL⟩),
      ⟨cK 45 4 48 7 J J J J (ap S8 (I3 _ _ q_r8) ⟨(ht J),(ht J),aL⟩),
      ⟨bT 49 8 J J J (ap XC (O5 _ q_r9) ⟨(ht J),aL⟩),
      ⟨bT 50 9 J J J (dX J J),
      ⟨bT 50 9 J J J (dX J J),
      aL⟩⟩⟩⟩⟩⟩⟩⟩⟩⟩⟩⟩ ?_
     refine am au J ai J (ht J) (ht J)<|bg J<|aq<|aj<|aF 4 J ?_;cases so h;exact be J J ⟨aN au J J J,aK J,aL⟩

theorem YJ(s:ac){R:ac×Int}(h:td s=some R):aR aU 82 [tD af s] (tT [tD af R.1,bM R.2]):=by
 refine aR.of Tryz.func82 J J J fun w0 S0=>av<|zo J (gi J)<|aP (r:=af) (x:=d3) au (fun _=>aJ _) J fun b=>zo J (bW)<|aq<|ah<|aC<|av<|zo J (bh au J J)<|bo h fun r q_r h=>zo J (ap Cz (rm _ q_r) ⟨(ht J),aL⟩)<|zo J (cx (ht J))<|bg J<|aq<|ce h J (fun h=>?_) (fun h=>?_)
 ·refine av<|zo J (bB (y:=d3) au gW aJ (J))<|am au J ai J (ht J) (ht J)<|zo J (bW)<|aq<|aj ?_;refine aB (ae ?_);refine aF 2 J ?_;cases so h;exact be J J ⟨aN au J J J,aK J,aL⟩
 ·refine av<|zo J (bh au J J)<|bo h fun r1 q_r1 h=>zo J (ap XD (O6 _ q_r1) ⟨(ht J),aL⟩)<|zo J (cx (ht J))<|bg J<|aq<|ce h J (fun h=>?_) (fun h=>?_)
  ·refine av<|zo J (bB (y:=d3) au gW aJ (J))<|am au J ai J (ht J) (ht J)<|zo J (bW)<|aq<|aj ?_;refine aB (ae ?_);refine aF 2 J ?_;cases so h;exact be J J ⟨aN au J J J,aK J,aL⟩
  ·refine av<|zo J (bX cz br J J)<|zo J (bh cg J J)<|zo J (hM J)<|bg J<|aq<|ce h J (fun h=>?_) (fun h=>?_)
   ·refine av<|zo J (bh au J J)<|am au J ai J (ht J) (ht J)<|zo J (bW)<|aq<|aj ?_;refine aB (ae ?_);refine aF 2 J ?_;cases so h;exact be J J ⟨aN au J J J,aK J,aL⟩
   ·refine bA<|aw<|ax<|av<|zo rfl (bX eE bY rfl rfl)<|zo rfl (bh uq rfl rfl)<|zo rfl (bX pD hY rfl rfl)<|zo rfl (bh fU rfl rfl)<|bo h fun r2 q_r2 h=>zo J (ap Pp (DZ _ _ q_r2) ⟨(ht J),(ht J),aL⟩)<|bo h fun r3 q_r3 h=>zo J (ap Lu (Bs _ q_r3) ⟨(ht J),aL⟩)<|aE J<|zo J (dX J J)<|zo J (dX J J)<|bg J<|bg J<|aq<|ah<|av<|aE J ?_;refine zo J (cx (ht J))<|aq<|ce h J (fun h=>?_) (fun h=>?_)
    ·refine av<|zo J (bB (y:=d3) au gW aJ (J))<|am au J ai J (ht J) (ht J)<|zo J (bW)<|aq<|aj<|ae<|aF 2 J ?_;cases so h;exact be J J ⟨aN au J J J,aK J,aL⟩
    ·refine df<|av<|aE J<|bo h fun r4 q_r4 h=>zo J (ap Lr (yf _ q_r4) ⟨(ht J),aL⟩)<|am au J ai J (ht J) (ht J)<|zo J (bW)<|aq<|aj<|aF 2 J ?_;cases so h;exact be J J ⟨aN au J J J,aK J,aL⟩

theorem YW(a1:gv)(l:(List (List ac))){R:ac×Int}(h:nk a1 l=some R):aR aU 28 [tD eH a1,cq (dg) l] (tT [tD af R.1,bM R.2]):=by
 refine aR.of Tryz.func28 J J J fun w0 S0=>av<|zo J (gi J)<|aP (r:=af) (x:=d3) au (fun _=>aJ _) J fun b=>zo J (bW)<|aq<|ah<|av<|zo J (bX mT iP J J)<|zo J (bh cg J J)<|zo J (hM J)<|aq<|ce h J (fun h=>?_) (fun h=>?_)
 ·refine av<|aE J<|zo J (jw jN J)<|bo h fun r q_r h=>zo J (ap Lr (yf _ q_r) ⟨(ht J),aL⟩)<|am au J ai J (ht J) (ht J)<|zo J (bW)<|aq<|aj<|ae<|aF 4 J ?_;cases so h;exact be J J ⟨aN au J J J,aK J,aL⟩
 ·refine df<|av<|zo J (bW)<|zo J (bW)<|aq<|av<|zo J (bB (y:=d3) au gW aJ (J))<|zo J (bB (y:=d3) au gW aJ (J))<|aP (r:=af) (x:=d3) au (fun _=>aJ _) J fun b1=>aP (r:=af) (x:=d3) au (fun _=>aJ _) J fun b2=>bq<|am au J ai J (ht J) (ht J)<|bq<|am au J ai J (ht J) (ht J)<|aq<|ah<|av<|zo J (bW) ?_;refine aq<|aC<|bp (k:=1) J fun hN=>bQ<|iq<|pX ?_;refine ba (yo (Z:=fun ls i n fault x sum best=>(l.drop i=ls)∧d5 a1 ls n fault x sum best=some R) (Of:=fun _ i n fault x sum best=>[bx af 46 b x,bx af 46 b1 sum,bx af 46 b2 best]) (Gf:=fun _ i n fault x sum best=>[(1,cq (dg) l),(2,bN eH a1),(4,tV (aS b 0)),(6,bM n),(7,bM fault),(8,tV (aS b1 0)),(9,tV (aS b2 0)),(10,bM (i:Int))]) (fun i n fault x sum best h=>?_) (fun e tl ih i n fault x sum best h=>?_) l 0 (0:Int) (0:Int) d3 d3 d3 ⟨J,h⟩) (bD J)
  ·obtain⟨hx,h⟩:=h
   refine aG<|ah<|av<|aE J<|aE J<|zo J (jw jN J)<|zo J (fY J J)<|aq<|bL (ht J) (dO hx)<|bG ?_;refine ak (ak (aV ?_));refine ax<|ah<|av<|aE rfl<|zo rfl (sx rfl)<|aq<|ce h rfl (fun h=>?_) (fun h=>?_)
   ·refine av<|zo J (bB (y:=d3) au gW aJ (J))<|aE J<|am au J ai J (ht J) (ht J)<|bg J<|aq<|aj<|ae<|aF 4 J<|aZ<|aZ ?_;cases so h;exact be J J ⟨aN au J J J,aK J,aL⟩
   ·refine df<|ah<|av<|zo J (bX mT iP J J)<|zo J (bh cg J J)<|aq<|aC<|av<|zo J (hM J)<|bg J<|aq<|ce h J (fun h=>?_) (fun h=>?_)
    ·refine av<|aE J<|bo h fun r1 q_r1 h=>zo J (ap Lr (yf _ q_r1) ⟨(ht J),aL⟩)<|am au J ai J (ht J) (ht J)<|zo J (bW)<|aq<|aj ?_;refine aB (ae ?_);refine aF 4 J<|aZ<|aZ ?_;cases so h;exact be J J ⟨aN au J J J,aK J,aL⟩
    ·refine av<|zo J (hM J)<|bg J<|aq<|ce h J (fun h=>?_) (fun h=>?_)
     ·refine av<|zo J (bE au J J bw (.tail _ (.head _)) (ht J))<|bo h fun r2 q_r2 h=>zo J (ap ac9 (YJ _ q_r2) ⟨(ht J),aL⟩)<|zo J (dX J J)<|zo J (dX J J)<|am au J ai J (ht J) (ht J)<|bg J<|aq<|aj ?_;refine aB (ae ?_);refine aF 4 J<|aZ<|aZ ?_;cases so h;exact be J J ⟨aN au J J J,aK J,aL⟩
     ·refine bA<|aw<|ax<|av<|zo rfl (bE au rfl rfl bw (.tail _ (.tail _ (.head _))) (ht rfl))<|am au rfl ai rfl (ht rfl) (ht rfl)<|zo rfl (bW)<|aq<|aj<|aF 4 rfl<|aZ<|aZ ?_;cases so h;exact be J J ⟨aN au J J J,aK J,aL⟩
  ·obtain⟨hx,h⟩:=h
   refine aG<|ah<|av<|aE J<|aE J<|zo J (jw jN J)<|zo J (fY J J)<|aq<|bK (ht J) (dL hx)<|df<|ah ?_;refine QT (Z:=fun n1 fault1 x1 sum1 best1=>gn (d5 a1 tl) n1 fault1 x1 sum1 best1=some R) (Of:=fun n1 fault1 x1 sum1 best1=>[bx af 46 b x1,bx af 46 b1 sum1,bx af 46 b2 best1]) (Gf:=fun n1 fault1 x1 sum1 best1=>[(1,cq (dg) l),(2,bN eH a1),(4,tV (aS b 0)),(6,bM n1),(7,bM fault1),(8,tV (aS b1 0)),(9,tV (aS b2 0)),(10,bM (i:Int))]) (fun n1 fault1 x1 sum1 best1 h=>?_) (fun K=>?_)
   ·skip
    refine ax<|aA<|aE rfl<|zo rfl (nf (dd hx hN) rfl)<|bg rfl<|aQ ?_;exact bn (ba (ih (i+1) n1 fault1 x1 sum1 best1 ⟨dc hx,h⟩) (bD J))
   ·skip
    refine ah<|bo h fun r3 q_r3 h=>?_
    refine oy 12 [tc (bN ck a1.Arg),tc (tD ck a1.Arg),tc (cq (dg) l),tc (bM (i:Int)),tc (bN dg e),tc (cq (af) e),tc (tT [tD af r3.1,bM r3.2]),tc (tT [tD af r3.1,bM r3.2]),tc (tD af r3.1),tc (bM r3.2),([10],fun s=>tV (aS ((s.getD 0 pj).h 0).2 0)),tc (AX)] [false,false,false,false,false,false,false,false,false,false,true,true] [fun _=>[bx af 46 b x,bx af 46 b1 sum,bx af 46 b2 best],fun sg=>[bx af 46 ((sg 10).h 0).2 d3,bx af 46 b x,bx af 46 b1 sum,bx af 46 b2 best],fun sg=>[bx af 46 ((sg 10).h 0).2 r3.1,bx af 46 b x,bx af 46 b1 sum,bx af 46 b2 best]] J mixed J J J J J
     ⟨⟨[⟨2,fun _=>bN eH a1,none⟩],_,0,1,J,⟨(fun _=>J),aL⟩,J,J,J,J,J,fun _ sg _ _=>aD J (bX ua oh J J)⟩,
     ⟨⟨[⟨28,fun _=>bN ck a1.Arg,some 0⟩],_,0,1,J,⟨(fun _=>J),aL⟩,J,J,J,J,J,fun _ sg _ _=>aD J (bh k5 J J)⟩,
     ⟨⟨[⟨1,fun _=>tD ee l,none⟩],_,0,1,J,⟨(fun _=>J),aL⟩,J,J,J,J,J,fun _ sg _ _=>aD J (cX J)⟩,
     ⟨⟨[⟨10,fun _=>tD cj (i:Int),none⟩],_,0,1,J,⟨(fun _=>J),aL⟩,J,J,J,J,J,fun _ sg _ _=>aD J (cX J)⟩,
     ⟨⟨[⟨30,fun _=>tD ee l,some 2⟩,⟨31,fun _=>tD cj (i:Int),some 3⟩],_,0,1,J,⟨(fun _=>J),(fun _=>J),aL⟩,J,J,J,J,J,fun _ sg _ _=>aD J (ne jN eg J J J (dA hx))⟩,
     ⟨⟨[⟨32,fun _=>bN dg e,some 4⟩],_,0,1,J,⟨(fun _=>J),aL⟩,J,J,J,J,J,fun _ sg _ _=>aD J (bh eg J J)⟩,
     ⟨⟨[⟨29,fun _=>tD ck a1.Arg,some 1⟩,⟨33,fun _=>tD dg e,some 5⟩],_,0,1,J,⟨(fun _=>J),(fun _=>J),aL⟩,J,J,J,J,J,fun _ sg _ _=>aD J (ap adb (YL _ _ q_r3) ⟨(ht J),(ht J),aL⟩)⟩,
     ⟨⟨[⟨34,fun _=>tT [tD af r3.1,tD cj r3.2],some 6⟩],_,0,1,J,⟨(fun _=>J),aL⟩,J,J,J,J,J,fun _ sg _ _=>aD J (cX J)⟩,
     ⟨⟨[⟨27,fun _=>tT [tD af r3.1,tD cj r3.2],some 7⟩],_,0,1,J,⟨(fun _=>J),aL⟩,J,J,J,J,J,fun _ sg _ _=>aD J (dX J J)⟩,
     ⟨⟨[⟨27,fun _=>tT [tD af r3.1,tD cj r3.2],some 7⟩],_,0,2,J,⟨(fun _=>J),aL⟩,J,J,J,J,J,fun _ sg _ _=>aD J (dX J J)⟩,
     ⟨⟨[],_,J,aL,J,J,J,fun sg=>eF J (vL (r:=af) (x:=d3) au (fun _=>aJ _))⟩,
     ⟨⟨[⟨11,fun sg=>tV (aS ((sg 10).h 0).2 0),some 10⟩,⟨35,fun _=>tD af r3.1,some 8⟩],_,J,⟨(fun _=>J),(fun _=>J),aL⟩,J,J,J,fun sg=>eF J (mZ au J (oS ai) J (ht J) (ht J))⟩,
     aL⟩⟩⟩⟩⟩⟩⟩⟩⟩⟩⟩⟩ (fun sg=>?_)
    refine(show RG _ _ _ _ [bx af 46 ((sg 10).h 0).2 r3.1,bx af 46 b x,bx af 46 b1 sum,bx af 46 b2 best] _ from ?_);refine aY 11 J<|bg J<|aq<|ah<|av<|aE J<|zo J (hM J)<|aq<|ce h J (fun h=>?_) (fun h=>?_)
    ·refine av<|aE J<|bg J<|aq<|bG ?_;refine ak (aV ?_);exact ci (K n r3.2 x sum best h) (bD J)
    ·refine df<|ah<|av<|aE J<|zo J (sx J)<|aE J<|dD J J (fun hg=>bX mT iP J J)<|dD J J (fun hg=>bj cg J J (bm J hg))<|dD J J (fun hg=>cd (bm J hg) hI)<|dD J J (fun hg=>bJ (bm J hg))<|cG J J J J (fun hg=>bX cz br J J)<|cG J J J J (fun hg=>bj cg J J (bm J hg))<|cG J J J J (fun hg=>c9 (bm J hg) hI)<|dD J J (fun hg=>jo (bm J hg) (fun hb=>(bm J (qD hg hb))))<|dD J J (fun hg=>bJ (bm J hg))<|cG J J J J (fun hg=>bX cz br J J)<|cG J J J J (fun hg=>bj cg J J (bm J hg))<|cG J J J J (fun hg=>c9 (bm J hg) hI)<|dD J J (fun hg=>jo (bm J hg) (fun hb=>(bm J (qD hg hb))))<|zo J (uo J J)<|aq ?_;refine ce h J (fun h=>?_) (fun h=>?_)
     ·refine av<|zo J (bB (y:=d3) au gW aJ (J))<|am au J ai J (ht J) (ht J)<|zo J (bW)<|aq<|aj ?_;refine ae (aB (ae (ae (aB (ae ?_)))));refine aF 4 J<|aZ<|aZ ?_;cases so h;exact be J J ⟨aN au J J J,aK J,aL⟩
     ·refine df<|ah<|av<|zo J (bX cz br J J)<|zo J (bh cg J J)<|zo J (hM J)<|aq<|ce h J (fun h=>?_) (fun h=>?_)
      ·refine bG ?_;refine ak (aV ?_);exact ci (K n fault x sum best h) (bD J)
      ·refine df<|av<|aE J<|zo J (fV (ht J) hI)<|bg J<|aq ?_;refine i6 (Z:=fun sum2=>kT a1 (d5 a1 tl) n fault x best r3 sum2=some R) (Of:=fun sum2=>[bx af 46 b x,bx af 46 b1 sum2,bx af 46 b2 best]) (Gf:=fun sum2=>[(1,cq (dg) l),(2,bN eH a1),(4,tV (aS b 0)),(6,bM (IntKind.i64.wrap (n+(1:Int)))),(7,bM fault),(8,tV (aS b1 0)),(9,tV (aS b2 0)),(10,bM (i:Int)),(11,bN af r3.1)]) (fun sum2 h=>?_) (fun K1=>?_)
       ·skip
        refine av<|aE J<|zo J (hM J)<|aE J<|bo h fun t q_t h=>dD J J (fun hg=>bX mT iP J J)<|dD J J (fun hg=>bj cg J J (bm J hg))<|dD J J (fun hg=>cd (bm J hg) hI)<|dD J J (fun hg=>bJ (bm J hg)) ?_
        obtain⟨t1,h1t,h0t⟩:=og q_t
        have q_t1g:=fun hb=>(h1t hb).1
        refine cG J J J J (fun hg=>bh au J J)<|cG J J J J (fun hg=>bE au J J bw (.tail _ (.tail _ (.head _))) (ht J)) ?_
        obtain⟨r4,h1t1,h0t1⟩:=ZZ q_t1g
        have q_r4g:=fun hb=>(h1t1 hb).1
        refine cG J J J J (fun hg=>ap aaE (Sk _ _ (q_r4g hg)) ⟨(bm J hg),(bm J hg),aL⟩)<|cG J J J J (fun hg=>dJ (bm J hg) hI)<|dD J J (fun hg=>cH (bm J hg) (fun hb=>(bm J (qD hg hb))) (fun hb=>(h1t1 (qD hg hb)).2) (fun hb=>h0t1 hg hb))<|zo J (eO (ht J) (fun hb=>(bm J (qo hb))) (fun hb=>(h1t hb).2) h0t)<|aE J<|bo h fun t2 q_t2 h=>dD J J (fun hg=>bX mT iP J J)<|dD J J (fun hg=>bj cg J J (bm J hg))<|dD J J (fun hg=>cd (bm J hg) hI)<|dD J J (fun hg=>bJ (bm J hg)) ?_
        obtain⟨t3,h1t2,h0t2⟩:=og q_t2
        have q_t3g:=fun hb=>(h1t2 hb).1
        refine cG J J J J (fun hg=>bh au J J)<|cG J J J J (fun hg=>bE au J J bw (.tail _ (.tail _ (.head _))) (ht J)) ?_
        obtain⟨r5,h1t3,h0t3⟩:=ZZ q_t3g
        have q_r5g:=fun hb=>(h1t3 hb).1
        refine cG J J J J (fun hg=>ap aaE (Sk _ _ (q_r5g hg)) ⟨(bm J hg),(bm J hg),aL⟩)<|cG J J J J (fun hg=>iz (bm J hg) hI)<|dD J J (fun hg=>cH (bm J hg) (fun hb=>(bm J (qD hg hb))) (fun hb=>(h1t3 (qD hg hb)).2) (fun hb=>h0t3 hg hb))<|zo J (eO (ht J) (fun hb=>(bm J (qo hb))) (fun hb=>(h1t2 hb).2) h0t2)<|aq<|ce h J (fun h=>?_) (fun h=>?_)
        ·refine aA<|zo J (bh au J J)<|gj<|am au J ai J (ht J) (ht J)<|aQ<|aw<|aM<|aM ?_;exact ci (K (IntKind.i64.wrap (n+(1:Int))) fault x sum2 r3.1 h) (bD J)
        ·refine bA<|aw ?_;exact ci (K (IntKind.i64.wrap (n+(1:Int))) fault x sum2 best h) (bD J)
       ·skip
        refine av<|zo J (bX mT iP J J)<|zo J (bh cg J J)<|zo J (hM J)<|aq<|ce h J (fun h=>?_) (fun h=>?_)
        ·refine aA<|zo J (bE au J J bw (.tail _ (.head _)) (ht J))<|zo J (bh au J J)<|bo h fun r6 q_r6 h=>zo J (ap ada (YK _ _ q_r6) ⟨(ht J),(ht J),aL⟩)<|aE J<|zo J (dX J J)<|zo J (dX J J)<|bq<|am au J ai J (ht J) (ht J)<|aQ<|aM<|bI<|aM ?_;exact ci (K1 r6.1 h) (bD J)
        ·refine bA ?_;exact ci (K1 sum h) (bD J)

end Go.Proofs.YtfhhakidodmdfaaGreatDoor

